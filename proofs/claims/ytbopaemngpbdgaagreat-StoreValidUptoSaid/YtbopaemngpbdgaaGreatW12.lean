/- Each Go function as a function over typed data, and its walk. -/
import Derived.Test.YtbopaemngpbdgaaGreatW0
import Derived.Test.YtbopaemngpbdgaaGreatW10
import Derived.Test.YtbopaemngpbdgaaGreatW11
namespace Go.Proofs.YtbopaemngpbdgaaGreat
open Go Go.Fw Go.Shelf
set_option maxRecDepth 100000
set_option maxHeartbeats 4000000
set_option linter.unusedSimpArgs false
set_option linter.unusedVariables false
def F4_l1(x0:TStore):Nat→(List Object)→Int→Option ((List Object))
 |0,_,_=>none
 |k+1,o1_0,o1_1=>(((if o1_1<(x0.History.length:Int)then some (decide (o1_1≤40))else some false)).bind fun o2=>(if o2=true then(rdI x0.History o1_1).bind fun y5=>(apI o1_0 ([y5.Object])).bind fun a6=>F4_l1 x0 k a6 ((IntKind.i64.wrap (o1_1+1)))else some o1_0))
def F4(x0:TStore):Option (Bool):=((F4_l1 x0 1099511627776 ([]) 0).bind fun o1=>(((F17 x0.Base).bind fun t8=>(if(nb t8)=true then some true else(F17 x0.Objects).bind fun t10=>(if(nb t10)=true then some true else(if 40<(x0.History.length:Int)then some true else(F17 o1).bind fun t13=>some (nb t13))))).bind fun o7=>(if o7=true then(F8).bind fun t15=>some t15 else(((F8).bind fun t17=>(if t17=true then(F18 x0).bind fun t19=>(F19 x0).bind fun t20=>some (((t19==t20)!=false))else some false)).bind fun o16=>some o16))))
def a4:AFn:=⟨56,[(.tmp 2)],
 (.seq (.reg [sq 1 (.box (.t 0)),
sq 2 (.mv (kB false))])
 (.seq (.reg [sq 5 (.bslice 23 []),
sq 3 (.mv (.t 5))])
 (.seq (.seq (.reg [sq 4 (.mv (kI 0))])
 (.sem (.block 0 (.loop (.seq (.seq (.sem (.reg [sq 6 (.mv (.t 4)),
sq 7 (.fieldA 5 (.t 1)),
sq 8 (.load none (.t 7)),
sq 9 (.len (.t 8)),
sq 10 (.bin .lss (.t 6) (.t 9)),
sq 11 (.mv (.t 10)),
zg 12 11 true (.mv (.t 4)),
zg 13 11 true (.bin .leq (.t 12) (kI 40)),
zl 14 (.pick (.t 11) (.t 13) (kB false)) [] [1,7,8]]))
 (.cond (.t 14)
 .skip
 (.exit 0)))
 (.seq (.block 1 (.reg [sq 17 (.mv (.t 3)),
sq 18 (.fieldA 5 (.t 1)),
sq 19 (.load none (.t 18)),
sq 20 (.mv (.t 4)),
sq 21 (.indexA 25 (.t 19) (.t 20)),
sq 22 (.fieldA 2 (.t 21)),
sq 23 (.load (some 23) (.t 22)),
sq 24 (.bslice 23 [(.t 23)]),
sq 25 (.app 23 352 (.t 17) (.t 24)),
sq 3 (.mv (.t 25))]))
 (.reg [sq 15 (.mv (.t 4)),
sq 16 (.bin .add (.t 15) (kI 1)),
sq 4 (.mv (.t 16))])))))))
 (.seq (.seq (.sem (.reg [sq 26 (.fieldA 3 (.t 1)),
sq 27 (.load none (.t 26)),
sq 28 (.call 17 [(.t 27)]),
sq 29 (.not (.t 28)),
sq 30 (.mv (.t 29)),
zg 31 30 false (.fieldA 4 (.t 1)),
zg 32 30 false (.load none (.t 31)),
zg 33 30 false (.call 17 [(.t 32)]),
zg 34 30 false (.not (.t 33)),
sq 35 (.pick (.t 30) (kB true) (.t 34)),
sq 36 (.mv (.t 35)),
zg 37 36 false (.fieldA 5 (.t 1)),
zg 38 36 false (.load none (.t 37)),
zg 39 36 false (.len (.t 38)),
zg 40 36 false (.bin .gtr (.t 39) (kI 40)),
sq 41 (.pick (.t 36) (kB true) (.t 40)),
sq 42 (.mv (.t 41)),
zg 43 42 false (.mv (.t 3)),
zg 44 42 false (.call 17 [(.t 43)]),
zg 45 42 false (.not (.t 44)),
sq 46 (.pick (.t 42) (kB true) (.t 45))]))
 (.cond (.t 46)
 (.seq (.reg [sq 47 (.call 8 []),
sq 2 (.mv (.t 47))])
 .ret)
 .skip))
 (.seq (.sem (.regd [zl 48 (.call 8 []) [] [],
sd 49 (.mv (.t 48)) [0],
⟨(some 50),(some (49,true)),.load (some 6) (.t 1),[0,1],(.new [])⟩,
⟨(some 51),(some (49,true)),.call 18 [(.t 50)],[0,1,2],(.new [2])⟩,
⟨(some 52),(some (49,true)),.load (some 6) (.t 1),[0,1],(.new [])⟩,
⟨(some 53),(some (49,true)),.call 19 [(.t 52)],[0,1,2,3,4],(.lone [])⟩,
⟨(some 54),(some (49,true)),.beq false (.t 51) (.t 53),[0,1,2,3,4,5],(.new [])⟩,
zl 55 (.pick (.t 49) (.t 54) (kB false)) [0,1,2,3,4,5,6] [],
sd 2 (.mv (.t 55)) [0,1,2,3,4,5,6,7]]))
 .ret)))))⟩
theorem F4_ok{x0 r}(h:F4 x0=some r):CallD Tryz.prog 4 [.agg [dI x0.Rev,dI x0.Floor,dI x0.NextUid,dM (x0.Base.map eObject),dM (x0.Objects.map eObject),dM (x0.History.map eChange)]] [] (tupV [.c (dB r)]) []:=by
 rw[F4]at h
 refine zc a4 (by kernel_rfl) rfl (ww ?_)
 refine t_bslice (enc:=eObject) (ys:=([]:List Object)) rfl rfl (by simp[A1.cells]) (by first|rfl|(simp only[List.drop_zero,take_mapL];rfl)|(simp only[lit,List.map_cons,List.map_nil,List.drop_zero,take_mapL,EE.down];done)|(simp only[lit,List.map_cons,List.map_nil,List.drop_zero,take_mapL,EE.down];rfl)) (ww ?_)
 obtain⟨o1,ho,h⟩:=bi h
 refine cutS (fun s=>s=⟨[(1,.one (.c (.pt 0 0))),(3,.one (.c (.own 1 0 0 (o1.length) none)))],[some (.box [dI x0.Rev,dI x0.Floor,dI x0.NextUid,dM (x0.Base.map eObject),dM (x0.Objects.map eObject),dM (x0.History.map eChange)]),some (.arr 0 23 (o1.map eObject))]⟩) ?_ ?_
 ·have h:=ho
  clear ho
  refine ww ?_
  refine bL (fun j s=>∃(o1_0:List Object) (o1_1:Int),s=⟨[(1,.one (.c (.pt 0 0))),(3,.one (.c (.own 1 0 0 (o1_0.length) none))),(4,.one (.c (dI o1_1)))],[some (.box [dI x0.Rev,dI x0.Floor,dI x0.NextUid,dM (x0.Base.map eObject),dM (x0.Objects.map eObject),dM (x0.History.map eChange)]),some (.arr 0 23 (o1_0.map eObject))]⟩∧F4_l1 x0 j o1_0 o1_1=some o1) 1099511627776 [some 0,some 1] ⟨[],0,rfl,h⟩ ?_
  rintro j _ ⟨o1_0,o1_1,rfl,h⟩
  cases j with
  |zero=>cases(show(none:Option _)=some _ from h)
  |succ j=>
   rw[F4_l1]at h
   refine ww ?_
   obtain⟨o2,ho,h⟩:=bi h
   refine cutS (fun s=>s=⟨[(1,.one (.c (.pt 0 0))),(3,.one (.c (.own 1 0 0 (o1_0.length) none))),(4,.one (.c (dI o1_1))),(14,.one (.c (dB o2)))],[some (.box [dI x0.Rev,dI x0.Floor,dI x0.NextUid,dM (x0.Base.map eObject),dM (x0.Objects.map eObject),dM (x0.History.map eChange)]),some (.arr 0 23 (o1_0.map eObject))]⟩) ?_ ?_
   ·have h:=ho
    clear ho
    refine ww ?_
    refine guardSh h (fun g3 h=>?_) (fun g3 h=>?_)
    ·refine ww ?_
     cases h
     exact eM [some 0,some 1] rfl
    ·refine ww ?_
     cases h
     exact eM [some 0,some 1] rfl
   ·rintro _ rfl
    clear ho
    refine ww ?_
    refine condBh h (fun c4 h=>?_) (fun c4 h=>?_)
    ·refine ww ?_
     obtain⟨y5,hy5,h⟩:=bi h
     refine t_idxF (enc:=eChange) (xs:=x0.History) rfl rfl hy5 rfl (ww ?_)
     refine t_bslice (enc:=eObject) (ys:=[y5.Object]) rfl rfl (by simp[A1.cells]) (by first|rfl|(simp only[List.drop_zero,take_mapL];rfl)|(simp only[lit,List.map_cons,List.map_nil,List.drop_zero,take_mapL,EE.down];done)|(simp only[lit,List.map_cons,List.map_nil,List.drop_zero,take_mapL,EE.down];rfl)) (ww ?_)
     obtain⟨a6,ha6,h⟩:=bi h
     refine t_app (enc:=eObject) (xs:=o1_0) rfl rfl (by first|rfl|simp only[List.length_set]|exact(clrL_len (slI_len (by assumption))).symm) rfl (rows_full (enc:=eObject) (by first|rfl|simp only[List.length_set]|exact(clrL_len (slI_len (by assumption))).symm) rfl) ha6 (ww ?_)
     exact eL' j [some 0,some 1] ⟨a6,(IntKind.i64.wrap (o1_1+1)),rfl,h⟩ (Nat.lt_succ_self _)
    ·refine ww ?_
     cases h
     exact eM [some 0,some 1] rfl
 rintro _ rfl
 clear ho
 refine ww ?_
 obtain⟨o7,ho,h⟩:=bi h
 refine cutS (fun s=>s=⟨[(1,.one (.c (.pt 0 0))),(46,.one (.c (dB o7)))],[some (.box [dI x0.Rev,dI x0.Floor,dI x0.NextUid,dM (x0.Base.map eObject),dM (x0.Objects.map eObject),dM (x0.History.map eChange)])]⟩) ?_ ?_
 ·have h:=ho
  clear ho
  refine ww ?_
  obtain⟨t8,ht8,h⟩:=bi h
  refine cN [] (F17_ok ht8) trivial (ww ?_)
  refine guardSBh h (fun g9 h=>?_) (fun g9 h=>?_)
  ·refine ww ?_
   cases h
   exact eM [some 0] rfl
  refine ww ?_
  obtain⟨t10,ht10,h⟩:=bi h
  refine cN [] (F17_ok ht10) trivial (ww ?_)
  refine guardSBh h (fun g11 h=>?_) (fun g11 h=>?_)
  ·refine ww ?_
   cases h
   exact eM [some 0] rfl
  refine ww ?_
  refine guardSh h (fun g12 h=>?_) (fun g12 h=>?_)
  ·refine ww ?_
   cases h
   exact eM [some 0] rfl
  refine ww ?_
  obtain⟨t13,ht13,h⟩:=bi h
  refine callX_bor (F17_ok ht13) (by simp only[borAs,bors,hp,List.getElem?_cons_zero,List.getElem?_cons_succ,Option.join_some,List.drop_zero,bor_full',true_and,Nat.zero_add,List.length_map,Nat.le_refl,nrm,List.length_cons,List.length_nil,Nat.reduceAdd,Nat.reduceLeDiff,List.take_succ_cons,List.take_zero,List.take_nil,List.map_cons,List.map_nil,List.length_set,EE.down]) rfl ?_
  refine ww ?_
  cases h
  exact eM [some 0] rfl
 rintro _ rfl
 clear ho
 refine ww ?_
 refine condBh h (fun c14 h=>?_) (fun c14 h=>?_)
 ·refine ww ?_
  obtain⟨t15,ht15,h⟩:=bi h
  refine cN [] (F8_ok ht15) trivial (ww ?_)
  cases h
  exact eF []
 refine ww ?_
 obtain⟨o16,ho,h⟩:=bi h
 refine cutS (fun s=>s=⟨[(2,.one (.c (dB o16)))],[]⟩) ?_ ?_
 ·have h:=ho
  clear ho
  refine ww ?_
  obtain⟨t17,ht17,h⟩:=bi h
  refine cN [] (F8_ok ht17) trivial (ww ?_)
  refine guardDBh h (fun g18 h=>?_) (fun g18 h=>?_)
  ·refine ww ?_
   obtain⟨t19,ht19,h⟩:=bi h
   refine cN [] (F18_ok ht19) trivial (ww ?_)
   obtain⟨t20,ht20,h⟩:=bi h
   refine cN [] (F19_ok ht20) trivial (ww ?_)
   cases h
   exact eM [] rfl
  refine ww ?_
  cases h
  exact eM [] rfl
 rintro _ rfl
 clear ho
 refine ww ?_
 cases h
 exact eF []
end Go.Proofs.YtbopaemngpbdgaaGreat
