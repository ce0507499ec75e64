/- Each Go function as a function over typed data, and its walk. -/
import Derived.Test.YtdkmamiedcanfaaGreatW0
import Derived.Test.YtdkmamiedcanfaaGreatW1
import Derived.Test.YtdkmamiedcanfaaGreatW2
import Derived.Test.YtdkmamiedcanfaaGreatW3
import Derived.Test.YtdkmamiedcanfaaGreatW4
import Derived.Test.YtdkmamiedcanfaaGreatW5
import Derived.Test.YtdkmamiedcanfaaGreatW7
import Derived.Test.YtdkmamiedcanfaaGreatW8
namespace Go.Proofs.YtdkmamiedcanfaaGreat
open Go Go.Fw Go.Shelf
set_option maxRecDepth 100000
set_option maxHeartbeats 4000000
set_option linter.unusedSimpArgs false
set_option linter.unusedVariables false
def F94(x0:Object):Option (Bool):=(((F127 x0.Meta).bind fun t2=>(if t2=true then(F128 x0.Spec).bind fun t4=>(if t4=true then(F128 x0.Status).bind fun t6=>some t6 else some false)else some false)).bind fun o1=>some o1)
def a94:AFn:=⟨16,[(.tmp 2)],
 (.seq (.reg [sq 1 (.box (.t 0)),
sq 2 (.mv (kB false))])
 (.seq (.sem (.reg [sq 3 (.fieldA 0 (.t 1)),
sq 4 (.load (some 13) (.t 3)),
sq 5 (.call 127 [(.t 4)]),
sq 6 (.mv (.t 5)),
zg 7 6 true (.fieldA 13 (.t 1)),
zg 8 6 true (.load (some 5) (.t 7)),
zg 9 6 true (.call 128 [(.t 8)]),
sq 10 (.pick (.t 6) (.t 9) (kB false)),
sq 11 (.mv (.t 10)),
zg 12 11 true (.fieldA 18 (.t 1)),
zg 13 11 true (.load (some 5) (.t 12)),
zg 14 11 true (.call 128 [(.t 13)]),
sq 15 (.pick (.t 11) (.t 14) (kB false)),
sq 2 (.mv (.t 15))]))
 .ret))⟩
theorem F94_ok{x0 r}(h:F94 x0=some r):CallD Tryz.prog 94 [.agg [dS x0.Meta.Kind,dS x0.Meta.Namespace,dS x0.Meta.Name,dI x0.Meta.Uid,dI x0.Meta.Version,dI x0.Meta.Generation,dI x0.Meta.Created,dB x0.Meta.Deleting,dI x0.Meta.DeleteAt,dM (x0.Meta.Labels.map eLabel),dM (x0.Meta.Owners.map eOwner),dM (x0.Meta.Finalizers.map eS),dM (x0.Meta.Managers.map eManager),dI x0.Spec.Kind,dI x0.Spec.N,dS x0.Spec.S,dM (x0.Spec.List_.map eTValue),dM (x0.Spec.Fields.map eTField),dI x0.Status.Kind,dI x0.Status.N,dS x0.Status.S,dM (x0.Status.List_.map eTValue),dM (x0.Status.Fields.map eTField)]] [] (tupV [.c (dB r)]) []:=by
 rw[F94]at h
 refine zc a94 (by kernel_rfl) rfl (ww ?_)
 obtain⟨o1,ho,h⟩:=bi h
 refine cutS (fun s=>s=⟨[(2,.one (.c (dB o1)))],[]⟩) ?_ ?_
 ·have h:=ho
  clear ho
  refine ww ?_
  obtain⟨t2,ht2,h⟩:=bi h
  refine cN [] (F127_ok ht2) trivial (ww ?_)
  refine guardSBh h (fun g3 h=>?_) (fun g3 h=>?_)
  ·refine ww ?_
   obtain⟨t4,ht4,h⟩:=bi h
   refine cN [] (F128_ok ht4) trivial (ww ?_)
   refine guardSBh h (fun g5 h=>?_) (fun g5 h=>?_)
   ·refine ww ?_
    obtain⟨t6,ht6,h⟩:=bi h
    refine cN [] (F128_ok ht6) trivial (ww ?_)
    cases h
    exact eM [] rfl
   refine ww ?_
   cases h
   exact eM [] rfl
  refine ww ?_
  cases h
  exact eM [] rfl
 rintro _ rfl
 clear ho
 refine ww ?_
 cases h
 exact eF []
def F91(x0:(List Object))(x1:Change):Option ((List Object)):=(if x1.Kind=1 then(F123 x0 x1.Object).bind fun t2=>some t2 else(F92 x1.Object).bind fun t3=>(F124 x0 t3).bind fun t4=>some t4)
def a91:AFn:=⟨17,[(.tmp 4)],
 (.seq (.reg [sq 3 (.box (.t 1)),
sq 4 (.mv kN)])
 (.seq (.seq (.reg [sq 5 (.fieldA 1 (.t 3)),
sq 6 (.load none (.t 5)),
sq 7 (.bin .eql (.t 6) (kI 1))])
 (.cond (.t 7)
 (.seq (.reg [sq 8 (.mv (.t 0)),
sq 9 (.fieldA 2 (.t 3)),
sq 10 (.load (some 23) (.t 9)),
sq 11 (.call 123 [(.t 8),(.t 10)]),
sq 4 (.mv (.t 11))])
 .ret)
 .skip))
 (.seq (.reg [sq 12 (.mv (.t 0)),
sq 13 (.fieldA 2 (.t 3)),
sq 14 (.load (some 23) (.t 13)),
sq 15 (.call 92 [(.t 14)]),
sq 16 (.call 124 [(.t 12),(.t 15)]),
sq 4 (.mv (.t 16))])
 .ret)))⟩
theorem F91_ok{x0 x1 r}(h:F91 x0 x1=some r):CallD Tryz.prog 91 [.c (dM (x0.map eObject)),.agg [dI x1.Rev,dI x1.Kind,dS x1.Object.Meta.Kind,dS x1.Object.Meta.Namespace,dS x1.Object.Meta.Name,dI x1.Object.Meta.Uid,dI x1.Object.Meta.Version,dI x1.Object.Meta.Generation,dI x1.Object.Meta.Created,dB x1.Object.Meta.Deleting,dI x1.Object.Meta.DeleteAt,dM (x1.Object.Meta.Labels.map eLabel),dM (x1.Object.Meta.Owners.map eOwner),dM (x1.Object.Meta.Finalizers.map eS),dM (x1.Object.Meta.Managers.map eManager),dI x1.Object.Spec.Kind,dI x1.Object.Spec.N,dS x1.Object.Spec.S,dM (x1.Object.Spec.List_.map eTValue),dM (x1.Object.Spec.Fields.map eTField),dI x1.Object.Status.Kind,dI x1.Object.Status.N,dS x1.Object.Status.S,dM (x1.Object.Status.List_.map eTValue),dM (x1.Object.Status.Fields.map eTField)]] [] (tupV [.c (.own 0 0 0 (r.length) none)]) [some (.arr 0 23 (r.map eObject))]:=by
 rw[F91]at h
 refine zc a91 (by kernel_rfl) rfl (ww ?_)
 refine condSh h (fun c1 h=>?_) (fun c1 h=>?_)
 ·refine ww ?_
  obtain⟨t2,ht2,h⟩:=bi h
  refine cN [] (F123_ok ht2) trivial (ww ?_)
  cases h
  exact eF [some 1]
 refine ww ?_
 obtain⟨t3,ht3,h⟩:=bi h
 refine cN [] (F92_ok ht3) trivial (ww ?_)
 obtain⟨t4,ht4,h⟩:=bi h
 refine cN [] (F124_ok ht4) trivial (ww ?_)
 cases h
 exact eF [some 1]
def F89_l6(x0:TStore)(x1:Int):Nat→(List Object)→Int→Option ((List Object))
 |0,_,_=>none
 |k+1,o6_0,o6_1=>(((if o6_1<(x0.History.length:Int)then(rdI x0.History o6_1).bind fun y9=>some (decide (y9.Rev≤x1))else some false)).bind fun o7=>(if o7=true then(rdI x0.History o6_1).bind fun y11=>(F91 o6_0 y11).bind fun t12=>F89_l6 x0 x1 k t12 ((IntKind.i64.wrap (o6_1+1)))else some o6_0))
def F89(x0:TStore)(x1:Int):Option ((List Object)×Int):=(((if x1<0 then some true else some (decide (x0.Rev<x1)))).bind fun o1=>(if o1=true then some (([],5))else(if x1<x0.Floor then some (([],10))else(apI ([]:List Object) x0.Base).bind fun a5=>((F89_l6 x0 x1 1099511627776 a5 0).bind fun o6=>some ((o6,0))))))
def a89:AFn:=⟨49,[(.tmp 4),(.tmp 5)],
 (.seq (.reg [sq 2 (.box (.t 0)),
sq 4 (.mv kN),
sq 5 (.mv (kI 0))])
 (.seq (.seq (.sem (.reg [sq 8 (.mv (.t 1)),
sq 9 (.bin .lss (.t 8) (kI 0)),
sq 10 (.mv (.t 9)),
zg 11 10 false (.mv (.t 1)),
zg 12 10 false (.fieldA 0 (.t 2)),
zg 13 10 false (.load none (.t 12)),
zg 14 10 false (.bin .gtr (.t 11) (.t 13)),
zl 15 (.pick (.t 10) (kB true) (.t 14)) [] [2,12]]))
 (.cond (.t 15)
 (.seq (.reg [sq 4 (.mv kN),
sq 5 (.mv (kI 5))])
 .ret)
 .skip))
 (.seq (.seq (.reg [sq 16 (.mv (.t 1)),
sq 17 (.fieldA 1 (.t 2)),
sq 18 (.load none (.t 17)),
sq 19 (.bin .lss (.t 16) (.t 18))])
 (.cond (.t 19)
 (.seq (.reg [sq 4 (.mv kN),
sq 5 (.mv (kI 10))])
 .ret)
 .skip))
 (.seq (.reg [sq 20 (.bslice 23 []),
sq 21 (.fieldA 3 (.t 2)),
sq 22 (.load none (.t 21)),
sq 23 (.app 23 352 (.t 20) (.t 22)),
sq 6 (.mv (.t 23))])
 (.seq (.seq (.reg [sq 7 (.mv (kI 0))])
 (.sem (.block 0 (.loop (.seq (.seq (.sem (.reg [sq 24 (.mv (.t 7)),
sq 25 (.fieldA 5 (.t 2)),
sq 26 (.load none (.t 25)),
sq 27 (.len (.t 26)),
sq 28 (.bin .lss (.t 24) (.t 27)),
sq 29 (.mv (.t 28)),
zg 30 29 true (.fieldA 5 (.t 2)),
zg 31 29 true (.load none (.t 30)),
zg 32 29 true (.mv (.t 7)),
zg 33 29 true (.indexA 25 (.t 31) (.t 32)),
zg 34 29 true (.fieldA 0 (.t 33)),
zg 35 29 true (.load none (.t 34)),
zg 36 29 true (.mv (.t 1)),
zg 37 29 true (.bin .leq (.t 35) (.t 36)),
zl 38 (.pick (.t 29) (.t 37) (kB false)) [] [2,25,26,2,30,31,33,34]]))
 (.cond (.t 38)
 .skip
 (.exit 0)))
 (.seq (.block 1 (.reg [sq 41 (.mv (.t 6)),
sq 42 (.fieldA 5 (.t 2)),
sq 43 (.load none (.t 42)),
sq 44 (.mv (.t 7)),
sq 45 (.indexA 25 (.t 43) (.t 44)),
sq 46 (.load (some 25) (.t 45)),
sq 47 (.call 91 [(.t 41),(.t 46)]),
sq 6 (.mv (.t 47))]))
 (.reg [sq 39 (.mv (.t 7)),
sq 40 (.bin .add (.t 39) (kI 1)),
sq 7 (.mv (.t 40))])))))))
 (.seq (.reg [sq 48 (.mv (.t 6)),
sq 4 (.mv (.t 48)),
sq 5 (.mv (kI 0))])
 .ret))))))⟩
theorem F89_ok{x0 x1 r}(h:F89 x0 x1=some r):CallD Tryz.prog 89 [.agg [dI x0.Rev,dI x0.Floor,dI x0.NextUid,dM (x0.Base.map eObject),dM (x0.Objects.map eObject),dM (x0.History.map eChange)],.c (dI x1)] [] (tupV [.c (.own 0 0 0 (r.1.length) none),.c (dI r.2)]) [some (.arr 0 23 (r.1.map eObject))]:=by
 rw[F89]at h
 refine zc a89 (by kernel_rfl) rfl (ww ?_)
 obtain⟨o1,ho,h⟩:=bi h
 refine cutS (fun s=>s=⟨[(1,.one (.c (dI x1))),(2,.one (.c (.pt 0 0))),(15,.one (.c (dB o1)))],[some (.box [dI x0.Rev,dI x0.Floor,dI x0.NextUid,dM (x0.Base.map eObject),dM (x0.Objects.map eObject),dM (x0.History.map eChange)])]⟩) ?_ ?_
 ·have h:=ho
  clear ho
  refine ww ?_
  refine guardSh h (fun g2 h=>?_) (fun g2 h=>?_)
  ·refine ww ?_
   cases h
   exact eM [some 0] rfl
  refine ww ?_
  cases h
  exact eM [some 0] rfl
 rintro _ rfl
 clear ho
 refine ww ?_
 refine condBh h (fun c3 h=>?_) (fun c3 h=>?_)
 ·refine ww ?_
  cases h
  exact eF [none]
 refine ww ?_
 refine condSh h (fun c4 h=>?_) (fun c4 h=>?_)
 ·refine ww ?_
  cases h
  exact eF [none]
 refine ww ?_
 refine t_bslice (enc:=eObject) (ys:=([]:List Object)) rfl rfl (by simp[A1.cells]) (by first|rfl|(simp only[List.drop_zero,take_mapL];rfl)|(simp only[lit,List.map_cons,List.map_nil,List.drop_zero,take_mapL,EE.down];done)|(simp only[lit,List.map_cons,List.map_nil,List.drop_zero,take_mapL,EE.down];rfl)) (ww ?_)
 obtain⟨a5,ha5,h⟩:=bi h
 refine t_app (enc:=eObject) (xs:=([]:List Object)) rfl rfl (by first|rfl|simp only[List.length_set]|exact(clrL_len (slI_len (by assumption))).symm) rfl (rows_frz (enc:=eObject) (fun _=>rfl)) ha5 (ww ?_)
 obtain⟨o6,ho,h⟩:=bi h
 refine cutS (fun s=>s=⟨[(6,.one (.c (.own 0 0 0 (o6.length) none)))],[some (.arr 0 23 (o6.map eObject))]⟩) ?_ ?_
 ·have h:=ho
  clear ho
  refine ww ?_
  refine bL (fun j s=>∃(o6_0:List Object) (o6_1:Int),s=⟨[(1,.one (.c (dI x1))),(2,.one (.c (.pt 0 0))),(6,.one (.c (.own 1 0 0 (o6_0.length) none))),(7,.one (.c (dI o6_1)))],[some (.box [dI x0.Rev,dI x0.Floor,dI x0.NextUid,dM (x0.Base.map eObject),dM (x0.Objects.map eObject),dM (x0.History.map eChange)]),some (.arr 0 23 (o6_0.map eObject))]⟩∧F89_l6 x0 x1 j o6_0 o6_1=some o6) 1099511627776 [some 0,some 1] ⟨a5,0,rfl,h⟩ ?_
  rintro j _ ⟨o6_0,o6_1,rfl,h⟩
  cases j with
  |zero=>cases(show(none:Option _)=some _ from h)
  |succ j=>
   rw[F89_l6]at h
   refine ww ?_
   obtain⟨o7,ho,h⟩:=bi h
   refine cutS (fun s=>s=⟨[(1,.one (.c (dI x1))),(2,.one (.c (.pt 0 0))),(6,.one (.c (.own 1 0 0 (o6_0.length) none))),(7,.one (.c (dI o6_1))),(38,.one (.c (dB o7)))],[some (.box [dI x0.Rev,dI x0.Floor,dI x0.NextUid,dM (x0.Base.map eObject),dM (x0.Objects.map eObject),dM (x0.History.map eChange)]),some (.arr 0 23 (o6_0.map eObject))]⟩) ?_ ?_
   ·have h:=ho
    clear ho
    refine ww ?_
    refine guardSh h (fun g8 h=>?_) (fun g8 h=>?_)
    ·refine ww ?_
     obtain⟨y9,hy9,h⟩:=bi h
     refine t_idxF (enc:=eChange) (xs:=x0.History) rfl rfl hy9 rfl (ww ?_)
     cases h
     exact eM [some 0,some 1] rfl
    ·refine ww ?_
     cases h
     exact eM [some 0,some 1] rfl
   ·rintro _ rfl
    clear ho
    refine ww ?_
    refine condBh h (fun c10 h=>?_) (fun c10 h=>?_)
    ·refine ww ?_
     obtain⟨y11,hy11,h⟩:=bi h
     refine t_idxF (enc:=eChange) (xs:=x0.History) rfl rfl hy11 rfl (ww ?_)
     obtain⟨t12,ht12,h⟩:=bi h
     refine callX_gen (as1:=[.c (dM (o6_0.map eObject)),.agg [dI y11.Rev,dI y11.Kind,dS y11.Object.Meta.Kind,dS y11.Object.Meta.Namespace,dS y11.Object.Meta.Name,dI y11.Object.Meta.Uid,dI y11.Object.Meta.Version,dI y11.Object.Meta.Generation,dI y11.Object.Meta.Created,dB y11.Object.Meta.Deleting,dI y11.Object.Meta.DeleteAt,dM (y11.Object.Meta.Labels.map eLabel),dM (y11.Object.Meta.Owners.map eOwner),dM (y11.Object.Meta.Finalizers.map eS),dM (y11.Object.Meta.Managers.map eManager),dI y11.Object.Spec.Kind,dI y11.Object.Spec.N,dS y11.Object.Spec.S,dM (y11.Object.Spec.List_.map eTValue),dM (y11.Object.Spec.Fields.map eTField),dI y11.Object.Status.Kind,dI y11.Object.Status.N,dS y11.Object.Status.S,dM (y11.Object.Status.List_.map eTValue),dM (y11.Object.Status.Fields.map eTField)]]) [(1,.arr 1 23 [])] [some 0,none] [] (F91_ok ht12) ⟨?_,rfl,?_⟩ ?_ ?_ ?_ ?_ ?_ ?_ ?_ ?_
     ·simp only[ZZ.down,Nat.reduceEqDiff,reduceCtorEq,Nat.reduceAdd,Nat.reduceLeDiff,Nat.reduceLT,Nat.reduceBNe,EE.down]
     ·simp only[ZZ.down,Nat.reduceEqDiff,reduceCtorEq,Nat.reduceAdd,Nat.reduceLeDiff,Nat.reduceLT,Nat.reduceBNe,EE.down]
     ·simp only[ZZ.down,Nat.reduceEqDiff,reduceCtorEq,Nat.reduceAdd,Nat.reduceLeDiff,Nat.reduceLT,Nat.reduceBNe,EE.down]
     ·rfl
     ·rfl
     ·simp[liveAll,A1.live,C.live]
     ·rfl
     ·decide
     ·exact trivial
     refine ww ?_
     exact eL' j [some 0,some 2] ⟨t12,(IntKind.i64.wrap (o6_1+1)),rfl,h⟩ (Nat.lt_succ_self _)
    ·refine ww ?_
     cases h
     exact eM [some 1] rfl
 rintro _ rfl
 clear ho
 refine ww ?_
 cases h
 exact eF [some 0]
def F95(x0:TStore)(x1:Int):Option (Int×(List Object)×(List Change)×Int):=(((if x1<x0.Floor then some true else some (decide (x0.Rev<x1)))).bind fun o1=>(if o1=true then some ((x0.Floor,x0.Base,x0.History,5))else(F89 x0 x1).bind fun t4=>(if¬(t4.2=0)then some ((x0.Floor,x0.Base,x0.History,t4.2))else(slI x0.History ((IntKind.i64.wrap (x1-x0.Floor))) ((x0.History.length:Int))).bind fun s6=>(apI ([]:List Change) s6).bind fun a7=>some ((x1,t4.1,a7,0)))))
def a95:AFn:=⟨44,[(.cell 4 (some 6)),(.tmp 5)],
 (.seq (.reg [sq 2 (.box (.t 0)),
sq 4 (.zbox [dI 0,dI 0,dI 0,dN,dN,dN]),
sq 5 (.mv (kI 0))])
 (.seq (.seq (.sem (.reg [sq 8 (.mv (.t 1)),
sq 9 (.fieldA 1 (.t 2)),
sq 10 (.load none (.t 9)),
sq 11 (.bin .lss (.t 8) (.t 10)),
sq 12 (.mv (.t 11)),
zg 13 12 false (.mv (.t 1)),
zg 14 12 false (.fieldA 0 (.t 2)),
zg 15 12 false (.load none (.t 14)),
zg 16 12 false (.bin .gtr (.t 13) (.t 15)),
zl 17 (.pick (.t 12) (kB true) (.t 16)) [] [2,9,2,14]]))
 (.cond (.t 17)
 (.seq (.reg [sq 18 (.load (some 6) (.t 2)),
su (.store 6 (.t 4) (.t 18)),
sq 5 (.mv (kI 5))])
 .ret)
 .skip))
 (.seq (.reg [sq 20 (.load (some 6) (.t 2)),
sq 21 (.mv (.t 1)),
sq 22 (.call 89 [(.t 20),(.t 21)]),
sq 19 (.mv (.t 22)),
sq 23 (.ext (.t 19) 0),
sq 24 (.ext (.t 19) 1),
sq 6 (.mv (.t 23)),
sq 7 (.mv (.t 24))])
 (.seq (.seq (.reg [sq 25 (.mv (.t 7)),
sq 26 (.bin .neq (.t 25) (kI 0))])
 (.cond (.t 26)
 (.seq (.reg [sq 27 (.load (some 6) (.t 2)),
sq 28 (.mv (.t 7)),
su (.store 6 (.t 4) (.t 27)),
sq 5 (.mv (.t 28))])
 .ret)
 .skip))
 (.seq (.reg [sq 29 (.bslice 25 []),
sq 30 (.fieldA 5 (.t 2)),
sq 31 (.load none (.t 30)),
sq 32 (.mv (.t 1)),
sq 33 (.fieldA 1 (.t 2)),
sq 34 (.load none (.t 33)),
sq 35 (.bin .sub (.t 32) (.t 34)),
sq 36 (.slice 25 (.t 31) (some (.t 35)) none none),
sq 37 (.app 25 368 (.t 29) (.t 36)),
sq 38 (.fieldA 5 (.t 2)),
su (.store 1 (.t 38) (.t 37))])
 (.seq (.reg [sq 39 (.mv (.t 6)),
sq 40 (.fieldA 3 (.t 2)),
⟨none,none,.store 1 (.t 40) (.t 39),[],(.lone [2])⟩])
 (.seq (.reg [sq 41 (.mv (.t 1)),
sq 42 (.fieldA 1 (.t 2)),
⟨none,none,.store 1 (.t 42) (.t 41),[],(.lone [2])⟩])
 (.seq (.reg [sq 43 (.load (some 6) (.t 2)),
su (.store 6 (.t 4) (.t 43)),
sq 5 (.mv (kI 0))])
 .ret))))))))⟩
theorem F95_ok{x0 x1 r}(h:F95 x0 x1=some r):CallD Tryz.prog 95 [.agg [dI x0.Rev,dI x0.Floor,dI x0.NextUid,dM (x0.Base.map eObject),dM (x0.Objects.map eObject),dM (x0.History.map eChange)],.c (dI x1)] [] (tupV [.agg [dI x0.Rev,dI r.1,dI x0.NextUid,dM (r.2.1.map eObject),dM (x0.Objects.map eObject),dM (r.2.2.1.map eChange)],.c (dI r.2.2.2)]) []:=by
 rw[F95]at h
 refine zc a95 (by kernel_rfl) rfl (ww ?_)
 obtain⟨o1,ho,h⟩:=bi h
 refine cutS (fun s=>s=⟨[(1,.one (.c (dI x1))),(2,.one (.c (.pt 0 0))),(4,.one (.c (.pt 1 0))),(17,.one (.c (dB o1)))],[some (.box [dI x0.Rev,dI x0.Floor,dI x0.NextUid,dM (x0.Base.map eObject),dM (x0.Objects.map eObject),dM (x0.History.map eChange)]),some (.box [dI 0,dI 0,dI 0,dN,dN,dN])]⟩) ?_ ?_
 ·have h:=ho
  clear ho
  refine ww ?_
  refine guardSh h (fun g2 h=>?_) (fun g2 h=>?_)
  ·refine ww ?_
   cases h
   exact eM [some 0,some 1] rfl
  refine ww ?_
  cases h
  exact eM [some 0,some 1] rfl
 rintro _ rfl
 clear ho
 refine ww ?_
 refine condBh h (fun c3 h=>?_) (fun c3 h=>?_)
 ·refine ww ?_
  cases h
  exact eF []
 refine ww ?_
 obtain⟨t4,ht4,h⟩:=bi h
 refine cN [] (F89_ok ht4) trivial (ww ?_)
 refine condSh h (fun c5 h=>?_) (fun c5 h=>?_)
 ·refine ww ?_
  cases h
  exact eF []
 refine ww ?_
 refine t_bslice (enc:=eChange) (ys:=([]:List Change)) rfl rfl (by simp[A1.cells]) (by first|rfl|(simp only[List.drop_zero,take_mapL];rfl)|(simp only[lit,List.map_cons,List.map_nil,List.drop_zero,take_mapL,EE.down];done)|(simp only[lit,List.map_cons,List.map_nil,List.drop_zero,take_mapL,EE.down];rfl)) (ww ?_)
 obtain⟨s6,hs6,h⟩:=bi h
 refine t_slice (enc:=eChange) (xs:=x0.History) rfl rfl rfl (fun _=>rfl) hs6 (ww ?_)
 obtain⟨a7,ha7,h⟩:=bi h
 refine t_app (enc:=eChange) (xs:=([]:List Change)) rfl rfl (by first|rfl|simp only[List.length_set]|exact(clrL_len (slI_len (by assumption))).symm) rfl (rows_frz (enc:=eChange) (fun _=>rfl)) ha7 (ww ?_)
 cases h
 exact eF []
def F111_l1:List Requirement→Nat→Option ((Int) ⊕ (Unit))
 |[],o1_0=>some (Sum.inr (()))
 |xo1::xs,o1_0=>(F79 xo1).bind fun t3=>(if t3=true then(some ((o1_0:Int))).map Sum.inl else F111_l1 xs (o1_0+1))
def F111(x0:(List Requirement)):Option (Int):=(((ck (0≤x0.length∧x0.length≤4294967290)).bind fun u5=>F111_l1 x0 0:Option ((Int) ⊕ (Unit))).bind fun o1=>match o1 with|Sum.inl f=>some f|Sum.inr po1=>some ((-1)))
def a111:AFn:=⟨19,[(.tmp 4)],
 (.seq (.reg [sq 4 (.mv (kI 0))])
 (.seq (.seq (.reg [sq 6 (.mv (.t 0)),
sq 7 (.len (.t 6)),
sq 8 (.mv (kI 0))])
 (.sem (.block 0 (.loop (.seq (.reg [sq 9 (.bin .lss (.t 8) (.t 7))])
 (.seq (.cond (.t 9)
 .skip
 (.exit 0))
 (.seq (.block 1 (.seq (.reg [sq 10 (.mv (.t 8)),
sq 5 (.mv (.t 10))])
 (.seq (.reg [sq 11 (.mv (.t 1)),
sq 12 (.mv (.t 0)),
sq 13 (.mv (.t 5)),
sq 14 (.indexA 3 (.t 12) (.t 13)),
sq 15 (.load (some 3) (.t 14)),
zl 16 (.callv (.t 11) [(.t 15)]) [] [12,14]])
 (.cond (.t 16)
 (.seq (.reg [sq 17 (.mv (.t 5)),
sq 4 (.mv (.t 17))])
 .ret)
 .skip))))
 (.reg [sq 18 (.bin .add (.t 8) (kI 1)),
sq 8 (.mv (.t 18))]))))))))
 (.seq (.reg [sq 4 (.mv (kI (-1)))])
 .ret)))⟩
theorem F111_ok{x0 r}(h:F111 x0=some r):CallD Tryz.prog 111 [.c (dM (x0.map eRequirement)),.c (.fn 79 [])] [] (tupV [.c (dI r)]) []:=by
 rw[F111]at h
 refine zc a111 (by kernel_rfl) rfl (ww ?_)
 obtain⟨o1,ho,h⟩:=bi h
 refine cutS (fun s=>∃po1,o1=Sum.inr po1∧s=⟨[],[]⟩) ?_ ?_
 ·have h0o1:=h
  have h:=ho
  clear ho
  obtain⟨_,hk,h⟩:=bi h
  have hk:=ck_some hk
  refine ww ?_
  refine bL (fun j s=>∃(o1_0:Nat),(o1_0≤x0.length∧j=x0.length-o1_0)∧s=⟨[(0,.one (.c (dM (x0.map eRequirement)))),(1,.one (.c (.fn 79 []))),(7,.one (.c (dI ((x0.length:Int))))),(8,.one (.c (dI ((o1_0:Int)))))],[]⟩∧F111_l1 (x0.drop o1_0) o1_0=some o1) (x0.length-0) [] ⟨0,⟨hk.1,rfl⟩,rfl,h⟩ ?_
  rintro _ _ ⟨o1_0,⟨hi,rfl⟩,rfl,h⟩
  refine ww ?_
  refine condS (fun c2=>?_) (fun c2=>?_)
  ·obtain⟨xo1,hxo1,hd⟩:=countY (show(o1_0:Int)<(x0.length:Int)from c2)
   rw[hd,F111_l1]at h
   refine ww ?_
   refine t_idxF (enc:=eRequirement) (xs:=x0) rfl rfl hxo1 rfl (ww ?_)
   obtain⟨t3,ht3,h⟩:=bi h
   refine cN [] (F79_ok ht3) trivial (ww ?_)
   refine condBh h (fun c4 h=>?_) (fun c4 h=>?_)
   ·refine ww ?_
    obtain⟨fh0o1,hfh0o1,rfl⟩:=Option.map_eq_some_iff.1 h
    have h:=hfh0o1.trans h0o1
    cases h
    exact eF []
   refine ww ?_
   rw[wrapN (by omega)]
   exact eL' (x0.length-(o1_0+1)) [] ⟨o1_0+1,⟨by omega,rfl⟩,rfl,h⟩ (by omega)
  rw[countN (show¬((o1_0:Int)<(x0.length:Int))from c2),F111_l1]at h
  refine ww ?_
  cases h
  exact eM [] ⟨_,rfl,rfl⟩
 rintro _ ⟨po1,rfl,rfl⟩
 clear ho
 dsimp only at h
 refine ww ?_
 cases h
 exact eF []
def F78(x0:(List Requirement)):Option (Bool):=(F111 x0).bind fun t1=>some (decide (0≤t1))
def a78:AFn:=⟨9,[(.tmp 4)],
 (.seq (.reg [sq 4 (.mv (kB false))])
 (.seq (.reg [sq 5 (.mv (.t 0)),
sq 6 (.mv (.t 1)),
sq 7 (.call 111 [(.t 5),(.t 6)]),
sq 8 (.bin .geq (.t 7) (kI 0)),
sq 4 (.mv (.t 8))])
 .ret))⟩
theorem F78_ok{x0 r}(h:F78 x0=some r):CallD Tryz.prog 78 [.c (dM (x0.map eRequirement)),.c (.fn 79 [])] [] (tupV [.c (dB r)]) []:=by
 rw[F78]at h
 refine zc a78 (by kernel_rfl) rfl (ww ?_)
 obtain⟨t1,ht1,h⟩:=bi h
 refine cN [] (F111_ok ht1) trivial (ww ?_)
 cases h
 exact eF []
def F45(x0:(List Requirement)):Option (Bool):=(((if(x0.length:Int)≤16 then(F78 x0).bind fun t3=>some (nb t3)else some false)).bind fun o1=>some o1)
def a45:AFn:=⟨11,[(.tmp 2)],
 (.seq (.reg [sq 2 (.mv (kB false))])
 (.seq (.sem (.reg [sq 3 (.mv (.t 0)),
sq 4 (.len (.t 3)),
sq 5 (.bin .leq (.t 4) (kI 16)),
sq 6 (.mv (.t 5)),
zg 7 6 true (.mv (.t 0)),
zg 8 6 true (.call 78 [(.t 7),(.f 79)]),
zg 9 6 true (.not (.t 8)),
sq 10 (.pick (.t 6) (.t 9) (kB false)),
sq 2 (.mv (.t 10))]))
 .ret))⟩
theorem F45_ok{x0 r}(h:F45 x0=some r):CallD Tryz.prog 45 [.c (dM (x0.map eRequirement))] [] (tupV [.c (dB r)]) []:=by
 rw[F45]at h
 refine zc a45 (by kernel_rfl) rfl (ww ?_)
 obtain⟨o1,ho,h⟩:=bi h
 refine cutS (fun s=>s=⟨[(2,.one (.c (dB o1)))],[]⟩) ?_ ?_
 ·have h:=ho
  clear ho
  refine ww ?_
  refine guardSh h (fun g2 h=>?_) (fun g2 h=>?_)
  ·refine ww ?_
   obtain⟨t3,ht3,h⟩:=bi h
   refine cN [] (F78_ok ht3) trivial (ww ?_)
   cases h
   exact eM [] rfl
  refine ww ?_
  cases h
  exact eM [] rfl
 rintro _ rfl
 clear ho
 refine ww ?_
 cases h
 exact eF []
def F140_l1(x0:(List Object))(x1:ByteArray):Nat→Int→Int→Option (Int)
 |0,_,_=>none
 |k+1,o1_0,o1_1=>(if o1_0<o1_1 then(rdI x0 ((IntKind.i64.wrap ((shrV .u64 ((IntKind.u64.wrap ((IntKind.i64.wrap (o1_0+o1_1))))) 1))))).bind fun y3=>(F141 y3 x1).bind fun t4=>(if t4<0 then F140_l1 x0 x1 k ((IntKind.i64.wrap (((IntKind.i64.wrap ((shrV .u64 ((IntKind.u64.wrap ((IntKind.i64.wrap (o1_0+o1_1))))) 1))))+1))) o1_1 else F140_l1 x0 x1 k o1_0 ((IntKind.i64.wrap ((shrV .u64 ((IntKind.u64.wrap ((IntKind.i64.wrap (o1_0+o1_1))))) 1)))))else some o1_0)
def F140(x0:(List Object))(x1:ByteArray):Option (Int×Bool):=((F140_l1 x0 x1 1099511627776 0 ((x0.length:Int))).bind fun o1=>(((if o1<(x0.length:Int)then(rdI x0 o1).bind fun y8=>(F141 y8 x1).bind fun t9=>some (decide (t9=0))else some false)).bind fun o6=>some ((o1,o6))))
def a140:AFn:=⟨49,[(.tmp 6),(.tmp 7)],
 (.seq (.reg [sq 6 (.mv (kI 0)),
sq 7 (.mv (kB false))])
 (.seq (.reg [sq 12 (.mv (.t 0)),
sq 13 (.len (.t 12)),
sq 8 (.mv (.t 13))])
 (.seq (.reg [sq 14 (.mv (.t 8)),
sq 9 (.mv (kI 0)),
sq 10 (.mv (.t 14))])
 (.seq (.sem (.block 0 (.loop (.seq (.seq (.reg [sq 15 (.mv (.t 9)),
sq 16 (.mv (.t 10)),
sq 17 (.bin .lss (.t 15) (.t 16))])
 (.cond (.t 17)
 .skip
 (.exit 0)))
 (.block 1 (.seq (.reg [sq 18 (.mv (.t 9)),
sq 19 (.mv (.t 10)),
sq 20 (.bin .add (.t 18) (.t 19)),
sq 21 (.conv .u64 (.t 20)),
sq 22 (.bin .shr (.t 21) (.k (.c (.d (.v (.int .u64 1)))))),
sq 23 (.conv .i64 (.t 22)),
sq 11 (.mv (.t 23))])
 (.seq (.reg [sq 24 (.mv (.t 2)),
sq 25 (.mv (.t 0)),
sq 26 (.mv (.t 11)),
sq 27 (.indexA 23 (.t 25) (.t 26)),
sq 28 (.load (some 23) (.t 27)),
sq 29 (.mv (.t 1)),
sq 30 (.callv (.t 24) [(.t 28),(.t 29)]),
sq 31 (.bin .lss (.t 30) (kI 0))])
 (.cond (.t 31)
 (.reg [sq 32 (.mv (.t 11)),
sq 33 (.bin .add (.t 32) (kI 1)),
sq 9 (.mv (.t 33))])
 (.reg [sq 34 (.mv (.t 11)),
sq 10 (.mv (.t 34))])))))))))
 (.seq (.sem (.reg [sq 35 (.mv (.t 9)),
sq 36 (.mv (.t 9)),
sq 37 (.mv (.t 8)),
sq 38 (.bin .lss (.t 36) (.t 37)),
sq 39 (.mv (.t 38)),
zg 40 39 true (.mv (.t 2)),
zg 41 39 true (.mv (.t 0)),
zg 42 39 true (.mv (.t 9)),
zg 43 39 true (.indexA 23 (.t 41) (.t 42)),
zg 44 39 true (.load (some 23) (.t 43)),
zg 45 39 true (.mv (.t 1)),
zg 46 39 true (.callv (.t 40) [(.t 44),(.t 45)]),
zg 47 39 true (.bin .eql (.t 46) (kI 0)),
sq 48 (.pick (.t 39) (.t 47) (kB false)),
sq 6 (.mv (.t 35)),
sq 7 (.mv (.t 48))]))
 .ret)))))⟩
theorem F140_ok{x0 x1 r}(h:F140 x0 x1=some r):CallD Tryz.prog 140 [.c (dM (x0.map eObject)),.c (dS x1),.c (.fn 141 [])] [] (tupV [.c (dI r.1),.c (dB r.2)]) []:=by
 rw[F140]at h
 refine zc a140 (by kernel_rfl) rfl (ww ?_)
 obtain⟨o1,ho,h⟩:=bi h
 refine cutS (fun s=>s=⟨[(0,.one (.c (dM (x0.map eObject)))),(1,.one (.c (dS x1))),(2,.one (.c (.fn 141 []))),(8,.one (.c (dI ((x0.length:Int))))),(9,.one (.c (dI o1)))],[]⟩) ?_ ?_
 ·have h:=ho
  clear ho
  refine ww ?_
  refine bL (fun j s=>∃(o1_0:Int) (o1_1:Int),s=⟨[(0,.one (.c (dM (x0.map eObject)))),(1,.one (.c (dS x1))),(2,.one (.c (.fn 141 []))),(8,.one (.c (dI ((x0.length:Int))))),(9,.one (.c (dI o1_0))),(10,.one (.c (dI o1_1)))],[]⟩∧F140_l1 x0 x1 j o1_0 o1_1=some o1) 1099511627776 [] ⟨0,(x0.length:Int),rfl,h⟩ ?_
  rintro j _ ⟨o1_0,o1_1,rfl,h⟩
  cases j with
  |zero=>cases(show(none:Option _)=some _ from h)
  |succ j=>
   rw[F140_l1]at h
   refine ww ?_
   refine condSh h (fun c2 h=>?_) (fun c2 h=>?_)
   ·refine ww ?_
    refine⟨by decide,?_⟩
    refine ww ?_
    obtain⟨y3,hy3,h⟩:=bi h
    refine t_idxF (enc:=eObject) (xs:=x0) rfl rfl hy3 rfl (ww ?_)
    obtain⟨t4,ht4,h⟩:=bi h
    refine cN [] (F141_ok ht4) trivial (ww ?_)
    refine condSh h (fun c5 h=>?_) (fun c5 h=>?_)
    ·refine ww ?_
     exact eL' j [] ⟨(IntKind.i64.wrap (((IntKind.i64.wrap ((shrV .u64 ((IntKind.u64.wrap ((IntKind.i64.wrap (o1_0+o1_1))))) 1))))+1)),o1_1,rfl,h⟩ (Nat.lt_succ_self _)
    ·refine ww ?_
     exact eL' j [] ⟨o1_0,(IntKind.i64.wrap ((shrV .u64 ((IntKind.u64.wrap ((IntKind.i64.wrap (o1_0+o1_1))))) 1))),rfl,h⟩ (Nat.lt_succ_self _)
   ·refine ww ?_
    cases h
    exact eM [] rfl
 rintro _ rfl
 clear ho
 refine ww ?_
 obtain⟨o6,ho,h⟩:=bi h
 refine cutS (fun s=>s=⟨[(6,.one (.c (dI o1))),(7,.one (.c (dB o6)))],[]⟩) ?_ ?_
 ·have h:=ho
  clear ho
  refine ww ?_
  refine guardSh h (fun g7 h=>?_) (fun g7 h=>?_)
  ·refine ww ?_
   obtain⟨y8,hy8,h⟩:=bi h
   refine t_idxF (enc:=eObject) (xs:=x0) rfl rfl hy8 rfl (ww ?_)
   obtain⟨t9,ht9,h⟩:=bi h
   refine cN [] (F141_ok ht9) trivial (ww ?_)
   cases h
   exact eM [] rfl
  refine ww ?_
  cases h
  exact eM [] rfl
 rintro _ rfl
 clear ho
 refine ww ?_
 cases h
 exact eF []
def F102(x0:(List Object))(x1:ByteArray):Option (Int×Bool):=(F140 x0 x1).bind fun t1=>some ((t1.1,t1.2))
def a102:AFn:=⟨11,[(.tmp 4),(.tmp 5)],
 (.seq (.reg [sq 4 (.mv (kI 0)),
sq 5 (.mv (kB false))])
 (.seq (.reg [sq 6 (.mv (.t 0)),
sq 7 (.mv (.t 1)),
sq 8 (.call 140 [(.t 6),(.t 7),(.f 141)]),
sq 9 (.ext (.t 8) 0),
sq 10 (.ext (.t 8) 1),
sq 4 (.mv (.t 9)),
sq 5 (.mv (.t 10))])
 .ret))⟩
theorem F102_ok{x0 x1 r}(h:F102 x0 x1=some r):CallD Tryz.prog 102 [.c (dM (x0.map eObject)),.c (dS x1)] [] (tupV [.c (dI r.1),.c (dB r.2)]) []:=by
 rw[F102]at h
 refine zc a102 (by kernel_rfl) rfl (ww ?_)
 obtain⟨t1,ht1,h⟩:=bi h
 refine cN [] (F140_ok ht1) trivial (ww ?_)
 cases h
 exact eF []
def F147(x0:(List Object))(x1:Change):Option ((List Object)×Bool):=(F33 x1.Object.Meta).bind fun t1=>(F102 x0 t1).bind fun t2=>(((if x1.Kind=2 then some (nb t2.2)else some false)).bind fun o3=>(if o3=true then some ((x0,false))else(if x1.Kind=2 then(delI x0 t2.1 ((IntKind.i64.wrap (t2.1+1)))).bind fun t7=>some ((t7,true))else(if t2.2=true then(rdI x0 t2.1).bind fun y9=>some (((x0.set t2.1.toNat x1.Object),true))else(insI x0 t2.1 x1.Object).bind fun t10=>some ((t10,true))))))
def a147:AFn:=⟨49,[(.tmp 4),(.tmp 5)],
 (.seq (.reg [sq 3 (.box (.t 1)),
sq 4 (.mv kN),
sq 5 (.mv (kB false))])
 (.seq (.reg [sq 9 (.mv (.t 0)),
sq 10 (.fieldA 2 (.t 3)),
sq 11 (.fieldA 0 (.t 10)),
sq 12 (.load (some 13) (.t 11)),
sq 13 (.call 33 [(.t 12)]),
sq 14 (.call 102 [(.t 9),(.t 13)]),
sq 8 (.mv (.t 14)),
sq 15 (.ext (.t 8) 0),
sq 16 (.ext (.t 8) 1),
sq 6 (.mv (.t 15)),
sq 7 (.mv (.t 16))])
 (.seq (.block 0 (.seq (.sem (.reg [sq 24 (.fieldA 1 (.t 3)),
sq 25 (.load none (.t 24)),
sq 26 (.bin .eql (.t 25) (kI 2)),
sq 27 (.mv (.t 26)),
zg 28 27 true (.mv (.t 7)),
zg 29 27 true (.not (.t 28)),
sq 30 (.pick (.t 27) (.t 29) (kB false)),
sq 23 (.mv (.t 30))]))
 (.cond (.t 23)
 (.seq (.reg [sq 31 (.mv (.t 0)),
sq 4 (.mv (.t 31)),
sq 5 (.mv (kB false))])
 .ret)
 (.seq (.reg [sq 33 (.fieldA 1 (.t 3)),
sq 34 (.load none (.t 33)),
sq 35 (.bin .eql (.t 34) (kI 2)),
sq 32 (.mv (.t 35))])
 (.cond (.t 32)
 (.seq (.reg [sq 36 (.mv (.t 0)),
sq 37 (.mv (.t 6)),
sq 38 (.mv (.t 6)),
sq 39 (.bin .add (.t 38) (kI 1)),
sq 40 (.call 183 [(.t 36),(.t 37),(.t 39)]),
sq 4 (.mv (.t 40)),
sq 5 (.mv (kB true))])
 .ret)
 (.seq (.reg [sq 42 (.mv (.t 7)),
sq 41 (.mv (.t 42))])
 (.cond (.t 41)
 (.reg [sq 43 (.mv (.t 0)),
sq 44 (.mv (.t 6)),
sq 45 (.fieldA 2 (.t 3)),
sq 46 (.load (some 23) (.t 45)),
sq 47 (.indexA 23 (.t 43) (.t 44)),
⟨none,none,.store 23 (.t 47) (.t 46),[],(.lone [3,45,43])⟩])
 (.reg [sq 17 (.mv (.t 0)),
sq 18 (.mv (.t 6)),
sq 19 (.fieldA 2 (.t 3)),
sq 20 (.load (some 23) (.t 19)),
sq 21 (.bslice 23 [(.t 20)]),
sq 22 (.call 184 [(.t 17),(.t 18),(.t 21)]),
sq 0 (.mv (.t 22))]))))))))
 (.seq (.reg [sq 48 (.mv (.t 0)),
sq 4 (.mv (.t 48)),
sq 5 (.mv (kB true))])
 .ret))))⟩
theorem F147_ok{x0 x1 r}{e0:Nat}(h:F147 x0 x1=some r):CallD Tryz.prog 147 [.c (.own 0 e0 0 (x0.length) none),.agg [dI x1.Rev,dI x1.Kind,dS x1.Object.Meta.Kind,dS x1.Object.Meta.Namespace,dS x1.Object.Meta.Name,dI x1.Object.Meta.Uid,dI x1.Object.Meta.Version,dI x1.Object.Meta.Generation,dI x1.Object.Meta.Created,dB x1.Object.Meta.Deleting,dI x1.Object.Meta.DeleteAt,dM (x1.Object.Meta.Labels.map eLabel),dM (x1.Object.Meta.Owners.map eOwner),dM (x1.Object.Meta.Finalizers.map eS),dM (x1.Object.Meta.Managers.map eManager),dI x1.Object.Spec.Kind,dI x1.Object.Spec.N,dS x1.Object.Spec.S,dM (x1.Object.Spec.List_.map eTValue),dM (x1.Object.Spec.Fields.map eTField),dI x1.Object.Status.Kind,dI x1.Object.Status.N,dS x1.Object.Status.S,dM (x1.Object.Status.List_.map eTValue),dM (x1.Object.Status.Fields.map eTField)]] [some (.arr e0 23 (x0.map eObject))] (tupV [.c (.own 0 (e0+2) 0 (r.1.length) none),.c (dB r.2)]) [some (.arr (e0+2) 23 (r.1.map eObject))]:=by
 rw[F147]at h
 refine zc a147 (by kernel_rfl) rfl (ww ?_)
 obtain⟨t1,ht1,h⟩:=bi h
 refine cN [] (F33_ok ht1) trivial (ww ?_)
 obtain⟨t2,ht2,h⟩:=bi h
 refine callX_bor (F102_ok ht2) (by simp only[borAs,bors,hp,List.getElem?_cons_zero,List.getElem?_cons_succ,Option.join_some,List.drop_zero,bor_full',true_and,Nat.zero_add,List.length_map,Nat.le_refl,nrm,List.length_cons,List.length_nil,Nat.reduceAdd,Nat.reduceLeDiff,List.take_succ_cons,List.take_zero,List.take_nil,List.map_cons,List.map_nil,List.length_set,EE.down]) rfl ?_
 refine ww ?_
 obtain⟨o3,ho,h⟩:=bi h
 refine cutS (fun s=>s=⟨[(0,.one (.c (.own 0 e0 0 (x0.length) none))),(3,.one (.c (.pt 1 0))),(6,.one (.c (dI t2.1))),(7,.one (.c (dB t2.2))),(23,.one (.c (dB o3)))],[some (.arr e0 23 (x0.map eObject)),some (.box [dI x1.Rev,dI x1.Kind,dS x1.Object.Meta.Kind,dS x1.Object.Meta.Namespace,dS x1.Object.Meta.Name,dI x1.Object.Meta.Uid,dI x1.Object.Meta.Version,dI x1.Object.Meta.Generation,dI x1.Object.Meta.Created,dB x1.Object.Meta.Deleting,dI x1.Object.Meta.DeleteAt,dM (x1.Object.Meta.Labels.map eLabel),dM (x1.Object.Meta.Owners.map eOwner),dM (x1.Object.Meta.Finalizers.map eS),dM (x1.Object.Meta.Managers.map eManager),dI x1.Object.Spec.Kind,dI x1.Object.Spec.N,dS x1.Object.Spec.S,dM (x1.Object.Spec.List_.map eTValue),dM (x1.Object.Spec.Fields.map eTField),dI x1.Object.Status.Kind,dI x1.Object.Status.N,dS x1.Object.Status.S,dM (x1.Object.Status.List_.map eTValue),dM (x1.Object.Status.Fields.map eTField)])]⟩) ?_ ?_
 ·have h:=ho
  clear ho
  refine ww ?_
  refine guardSh h (fun g4 h=>?_) (fun g4 h=>?_)
  ·refine ww ?_
   cases h
   exact eM [some 0,some 1] rfl
  refine ww ?_
  cases h
  exact eM [some 0,some 1] rfl
 rintro _ rfl
 clear ho
 refine ww ?_
 refine condBh h (fun c5 h=>?_) (fun c5 h=>?_)
 ·refine ww ?_
  cases h
  exact eF [some 0]
 refine ww ?_
 refine condSh h (fun c6 h=>?_) (fun c6 h=>?_)
 ·refine ww ?_
  obtain⟨t7,ht7,h⟩:=bi h
  refine cN [0] (F183_ok (e0:=e0) ht7) ⟨⟨rfl,trivial⟩,trivial⟩ ?_
  refine ww ?_
  cases h
  exact eF [some 0]
 refine ww ?_
 refine condBh h (fun c8 h=>?_) (fun c8 h=>?_)
 ·refine ww ?_
  obtain⟨y9,hy9,h⟩:=bi h
  refine t_idxO (enc:=eObject) (xs:=x0) rfl rfl rfl (by first|rfl|simp only[List.length_set]|exact(clrL_len (slI_len (by assumption))).symm) hy9 (ww ?_)
  refine StRow.rd (y':=x1.Object) (rdI_some hy9).2.1 (by simp[EE.down]) (by first|rfl|(simp only[bor_full'];rfl)) (ww ?_)
  cases h
  exact eF [some 0]
 refine ww ?_
 refine t_bslice (enc:=eObject) (ys:=[x1.Object]) rfl rfl (by simp[A1.cells]) (by first|rfl|(simp only[List.drop_zero,take_mapL];rfl)|(simp only[lit,List.map_cons,List.map_nil,List.drop_zero,take_mapL,EE.down];done)|(simp only[lit,List.map_cons,List.map_nil,List.drop_zero,take_mapL,EE.down];rfl)) (ww ?_)
 obtain⟨t10,ht10,h⟩:=bi h
 refine cN [0,2] (F184_ok (e0:=e0) (e1:=0) ht10) ⟨⟨rfl,trivial⟩,⟨⟨rfl,trivial⟩,trivial⟩⟩ ?_
 refine ww ?_
 cases h
 exact eF [some 0]
def F105_l5:List Manager→Nat→(List Manager)→Option ((List Manager))
 |[],o5_1,o5_0=>some o5_0
 |xo5::xs,o5_1,o5_0=>(rdI o5_0 ((o5_1:Int))).bind fun y7=>(cloneI y7.Fields).bind fun t8=>(rdI o5_0 ((o5_1:Int))).bind fun y9=>F105_l5 xs (o5_1+1) ((o5_0.set ((o5_1:Int)).toNat ((⟨y9.Name,t8⟩:Manager))))
def F105(x0:Object):Option ((List Label)×(List Owner)×(List ByteArray)×(List Manager)×Int×Int×ByteArray×((List TValue))×((List TField))×Int×Int×ByteArray×((List TValue))×((List TField))):=(cloneI x0.Meta.Labels).bind fun t1=>(cloneI x0.Meta.Owners).bind fun t2=>(cloneI x0.Meta.Finalizers).bind fun t3=>(cloneI x0.Meta.Managers).bind fun t4=>(((ck (0≤t4.length∧t4.length≤4294967290)).bind fun u10=>F105_l5 t4 0 t4).bind fun o5=>(F146 x0.Spec).bind fun t11=>(F146 x0.Status).bind fun t12=>some ((t1,t2,t3,o5,(t11).Kind,(t11).N,(t11).S,(t11).List_,(t11).Fields,(t12).Kind,(t12).N,(t12).S,(t12).List_,(t12).Fields)))
def a105:AFn:=⟨72,[(.cell 2 (some 23))],
 (.seq (.reg [sq 1 (.box (.t 0)),
sq 2 (.zbox [dS ⟨#[]⟩,dS ⟨#[]⟩,dS ⟨#[]⟩,dI 0,dI 0,dI 0,dI 0,dB false,dI 0,dN,dN,dN,dN,dI 0,dI 0,dS ⟨#[]⟩,dN,dN,dI 0,dI 0,dS ⟨#[]⟩,dN,dN])])
 (.seq (.reg [sq 5 (.fieldA 0 (.t 1)),
sq 3 (.mv (.t 5))])
 (.seq (.regd [sq 6 (.mv (.t 3)),
sq 7 (.mv (.t 3)),
sq 8 (.mv (.t 3)),
sq 9 (.mv (.t 3)),
sq 10 (.mv (.t 3)),
sd 11 (.fieldA 0 (.t 10)) [4],
sd 12 (.fieldA 9 (.t 11)) [4,5],
sd 13 (.load none (.t 12)) [4,5,6],
zn 14 (.call 65 [(.t 13)]) [4,5,6,7] [4,5,6,7],
sq 15 (.mv (.t 3)),
sd 16 (.fieldA 0 (.t 15)) [9],
sd 17 (.fieldA 10 (.t 16)) [9,10],
sd 18 (.load none (.t 17)) [9,10,11],
zn 19 (.call 66 [(.t 18)]) [4,5,6,7,8,9,10,11,12] [4,5,6,7,8,9,10,11,12],
sq 20 (.mv (.t 3)),
sd 21 (.fieldA 0 (.t 20)) [14],
sd 22 (.fieldA 11 (.t 21)) [14,15],
sd 23 (.load none (.t 22)) [14,15,16],
zn 24 (.call 61 [(.t 23)]) [4,5,6,7,8,9,10,11,12,13,14,15,16,17] [4,5,6,7,8,9,10,11,12,13,14,15,16,17],
sq 25 (.mv (.t 3)),
sd 26 (.fieldA 0 (.t 25)) [19],
sd 27 (.fieldA 12 (.t 26)) [19,20],
sd 28 (.load none (.t 27)) [19,20,21],
zl 29 (.call 67 [(.t 28)]) [4,5,6,7,8,9,10,11,12,13,14,15,16,17,18,19,20,21,22] [],
sd 30 (.fieldA 0 (.t 6)) [0,4,5,6,7,8,9,10,11,12,13,14,15,16,17,18,19,20,21,22,23],
sd 31 (.fieldA 9 (.t 30)) [0,4,5,6,7,8,9,10,11,12,13,14,15,16,17,18,19,20,21,22,23,24],
⟨none,none,.store 1 (.t 31) (.t 14),[0,4,5,6,7,8,9,10,11,12,13,14,15,16,17,18,19,20,21,22,23,24,25],(.lone [])⟩,
sd 32 (.fieldA 0 (.t 7)) [0,1,4,5,6,7,8,9,10,11,12,13,14,15,16,17,18,19,20,21,22,23,24,25,26],
sd 33 (.fieldA 10 (.t 32)) [0,1,4,5,6,7,8,9,10,11,12,13,14,15,16,17,18,19,20,21,22,23,24,25,26,27],
⟨none,none,.store 1 (.t 33) (.t 19),[0,1,4,5,6,7,8,9,10,11,12,13,14,15,16,17,18,19,20,21,22,23,24,25,26,27,28],(.lone [])⟩,
sd 34 (.fieldA 0 (.t 8)) [0,1,2,4,5,6,7,8,9,10,11,12,13,14,15,16,17,18,19,20,21,22,23,24,25,26,27,28,29],
sd 35 (.fieldA 11 (.t 34)) [0,1,2,4,5,6,7,8,9,10,11,12,13,14,15,16,17,18,19,20,21,22,23,24,25,26,27,28,29,30],
⟨none,none,.store 1 (.t 35) (.t 24),[0,1,2,4,5,6,7,8,9,10,11,12,13,14,15,16,17,18,19,20,21,22,23,24,25,26,27,28,29,30,31],(.lone [])⟩,
sd 36 (.fieldA 0 (.t 9)) [0,1,2,3,4,5,6,7,8,9,10,11,12,13,14,15,16,17,18,19,20,21,22,23,24,25,26,27,28,29,30,31,32],
sd 37 (.fieldA 12 (.t 36)) [0,1,2,3,4,5,6,7,8,9,10,11,12,13,14,15,16,17,18,19,20,21,22,23,24,25,26,27,28,29,30,31,32,33],
⟨none,none,.store 1 (.t 37) (.t 29),[0,1,2,3,4,5,6,7,8,9,10,11,12,13,14,15,16,17,18,19,20,21,22,23,24,25,26,27,28,29,30,31,32,33,34],(.lone [])⟩])
 (.seq (.seq (.reg [sq 38 (.mv (.t 3)),
sq 39 (.fieldA 0 (.t 38)),
sq 40 (.fieldA 12 (.t 39)),
sq 41 (.load none (.t 40)),
sq 42 (.len (.t 41)),
sq 43 (.mv (kI 0))])
 (.sem (.block 0 (.loop (.seq (.reg [sq 44 (.bin .lss (.t 43) (.t 42))])
 (.seq (.cond (.t 44)
 .skip
 (.exit 0))
 (.seq (.block 1 (.seq (.reg [sq 45 (.mv (.t 43)),
sq 4 (.mv (.t 45))])
 (.regd [sq 46 (.mv (.t 3)),
sd 47 (.fieldA 0 (.t 46)) [0],
sd 48 (.fieldA 12 (.t 47)) [0,1],
sd 49 (.load none (.t 48)) [0,1,2],
sq 50 (.mv (.t 4)),
sq 51 (.mv (.t 3)),
sd 52 (.fieldA 0 (.t 51)) [5],
sd 53 (.fieldA 12 (.t 52)) [5,6],
sd 54 (.load none (.t 53)) [5,6,7],
sq 55 (.mv (.t 4)),
sd 56 (.indexA 2 (.t 54) (.t 55)) [5,6,7,8,9],
sd 57 (.fieldA 1 (.t 56)) [5,6,7,8,9,10],
sd 58 (.load none (.t 57)) [5,6,7,8,9,10,11],
zl 59 (.call 61 [(.t 58)]) [5,6,7,8,9,10,11,12] [46,47,48],
sd 60 (.indexA 2 (.t 49) (.t 50)) [0,1,2,3,4,5,6,7,8,9,10,11,12,13],
sd 61 (.fieldA 1 (.t 60)) [0,1,2,3,4,5,6,7,8,9,10,11,12,13,14],
⟨none,none,.store 1 (.t 61) (.t 59),[0,1,2,3,4,5,6,7,8,9,10,11,12,13,14,15],(.lone [])⟩])))
 (.reg [sq 62 (.bin .add (.t 43) (kI 1)),
sq 43 (.mv (.t 62))]))))))))
 (.seq (.regd [sq 63 (.fieldA 13 (.t 1)),
sd 64 (.load (some 5) (.t 63)) [0],
zn 65 (.call 146 [(.t 64)]) [0,1] [0,1],
sq 66 (.fieldA 18 (.t 1)),
sd 67 (.load (some 5) (.t 66)) [3],
zl 68 (.call 146 [(.t 67)]) [0,1,2,3,4] [],
sd 69 (.fieldA 13 (.t 1)) [0,1,2,3,4,5],
⟨none,none,.store 5 (.t 69) (.t 65),[0,1,2,3,4,5,6],(.lone [])⟩,
sd 70 (.fieldA 18 (.t 1)) [0,1,2,3,4,5,6,7],
⟨none,none,.store 5 (.t 70) (.t 68),[0,1,2,3,4,5,6,7,8],(.lone [])⟩])
 (.seq (.reg [sq 71 (.load (some 23) (.t 1)),
⟨none,none,.store 23 (.t 2) (.t 71),[],(.lone [1])⟩])
 .ret))))))⟩
theorem F105_ok{x0 r}(h:F105 x0=some r):CallD Tryz.prog 105 [.agg [dS x0.Meta.Kind,dS x0.Meta.Namespace,dS x0.Meta.Name,dI x0.Meta.Uid,dI x0.Meta.Version,dI x0.Meta.Generation,dI x0.Meta.Created,dB x0.Meta.Deleting,dI x0.Meta.DeleteAt,dM (x0.Meta.Labels.map eLabel),dM (x0.Meta.Owners.map eOwner),dM (x0.Meta.Finalizers.map eS),dM (x0.Meta.Managers.map eManager),dI x0.Spec.Kind,dI x0.Spec.N,dS x0.Spec.S,dM (x0.Spec.List_.map eTValue),dM (x0.Spec.Fields.map eTField),dI x0.Status.Kind,dI x0.Status.N,dS x0.Status.S,dM (x0.Status.List_.map eTValue),dM (x0.Status.Fields.map eTField)]] [] (tupV [.agg [dS x0.Meta.Kind,dS x0.Meta.Namespace,dS x0.Meta.Name,dI x0.Meta.Uid,dI x0.Meta.Version,dI x0.Meta.Generation,dI x0.Meta.Created,dB x0.Meta.Deleting,dI x0.Meta.DeleteAt,.own 0 0 0 (r.1.length) none,.own 1 0 0 (r.2.1.length) none,.own 2 0 0 (r.2.2.1.length) none,.own 3 0 0 (r.2.2.2.1.length) none,dI r.2.2.2.2.1,dI r.2.2.2.2.2.1,dS r.2.2.2.2.2.2.1,dM (r.2.2.2.2.2.2.2.1.map eTValue),dM (r.2.2.2.2.2.2.2.2.1.map eTField),dI r.2.2.2.2.2.2.2.2.2.1,dI r.2.2.2.2.2.2.2.2.2.2.1,dS r.2.2.2.2.2.2.2.2.2.2.2.1,dM (r.2.2.2.2.2.2.2.2.2.2.2.2.1.map eTValue),dM (r.2.2.2.2.2.2.2.2.2.2.2.2.2.map eTField)]]) [some (.arr 0 2 (r.1.map eLabel)),some (.arr 0 5 (r.2.1.map eOwner)),some (.arr 0 1 (r.2.2.1.map eS)),some (.arr 0 2 (r.2.2.2.1.map eManager))]:=by
 rw[F105]at h
 refine zc a105 (by kernel_rfl) rfl (ww ?_)
 obtain⟨t1,ht1,h⟩:=bi h
 refine cN [] (F65_ok ht1) trivial (ww ?_)
 refine kD_new (by simp[wrs,allW,hset]) (ww ?_)
 obtain⟨t2,ht2,h⟩:=bi h
 refine cN [] (F66_ok ht2) trivial (ww ?_)
 refine kD_new (by simp[wrs,allW,hset]) (ww ?_)
 obtain⟨t3,ht3,h⟩:=bi h
 refine cN [] (F61_ok ht3) trivial (ww ?_)
 refine kD_new (by simp[wrs,allW,hset]) (ww ?_)
 obtain⟨t4,ht4,h⟩:=bi h
 refine cN [] (F67_ok ht4) trivial (ww ?_)
 obtain⟨o5,ho,h⟩:=bi h
 refine cutS (fun s=>s=⟨[(1,.one (.c (.pt 0 0))),(2,.one (.c (.pt 5 0)))],[some (.box [dS x0.Meta.Kind,dS x0.Meta.Namespace,dS x0.Meta.Name,dI x0.Meta.Uid,dI x0.Meta.Version,dI x0.Meta.Generation,dI x0.Meta.Created,dB x0.Meta.Deleting,dI x0.Meta.DeleteAt,.own 1 0 0 (t1.length) none,.own 2 0 0 (t2.length) none,.own 3 0 0 (t3.length) none,.own 4 0 0 (o5.length) none,dI x0.Spec.Kind,dI x0.Spec.N,dS x0.Spec.S,dM (x0.Spec.List_.map eTValue),dM (x0.Spec.Fields.map eTField),dI x0.Status.Kind,dI x0.Status.N,dS x0.Status.S,dM (x0.Status.List_.map eTValue),dM (x0.Status.Fields.map eTField)]),some (.arr 0 2 (t1.map eLabel)),some (.arr 0 5 (t2.map eOwner)),some (.arr 0 1 (t3.map eS)),some (.arr 0 2 (o5.map eManager)),some (.box [dS ((⟨#[]⟩:ByteArray)),dS ((⟨#[]⟩:ByteArray)),dS ((⟨#[]⟩:ByteArray)),dI 0,dI 0,dI 0,dI 0,dB false,dI 0,dN,dN,dN,dN,dI 0,dI 0,dS ((⟨#[]⟩:ByteArray)),dN,dN,dI 0,dI 0,dS ((⟨#[]⟩:ByteArray)),dN,dN])]⟩) ?_ ?_
 ·have h:=ho
  clear ho
  obtain⟨_,hk,h⟩:=bi h
  have hk:=ck_some hk
  refine ww ?_
  refine bL (fun j s=>∃(o5_1:Nat) (o5_0:List Manager),(o5_1≤t4.length∧j=t4.length-o5_1)∧s=⟨[(1,.one (.c (.pt 0 0))),(2,.one (.c (.pt 5 0))),(3,.one (.c (.pt 0 0))),(42,.one (.c (dI ((t4.length:Int))))),(43,.one (.c (dI ((o5_1:Int)))))],[some (.box [dS x0.Meta.Kind,dS x0.Meta.Namespace,dS x0.Meta.Name,dI x0.Meta.Uid,dI x0.Meta.Version,dI x0.Meta.Generation,dI x0.Meta.Created,dB x0.Meta.Deleting,dI x0.Meta.DeleteAt,.own 1 0 0 (t1.length) none,.own 2 0 0 (t2.length) none,.own 3 0 0 (t3.length) none,.own 4 0 0 (o5_0.length) none,dI x0.Spec.Kind,dI x0.Spec.N,dS x0.Spec.S,dM (x0.Spec.List_.map eTValue),dM (x0.Spec.Fields.map eTField),dI x0.Status.Kind,dI x0.Status.N,dS x0.Status.S,dM (x0.Status.List_.map eTValue),dM (x0.Status.Fields.map eTField)]),some (.arr 0 2 (t1.map eLabel)),some (.arr 0 5 (t2.map eOwner)),some (.arr 0 1 (t3.map eS)),some (.arr 0 2 (o5_0.map eManager)),some (.box [dS ((⟨#[]⟩:ByteArray)),dS ((⟨#[]⟩:ByteArray)),dS ((⟨#[]⟩:ByteArray)),dI 0,dI 0,dI 0,dI 0,dB false,dI 0,dN,dN,dN,dN,dI 0,dI 0,dS ((⟨#[]⟩:ByteArray)),dN,dN,dI 0,dI 0,dS ((⟨#[]⟩:ByteArray)),dN,dN])]⟩∧F105_l5 (t4.drop o5_1) o5_1 o5_0=some o5) (t4.length-0) [some 0,some 2,some 3,some 4,some 5,some 1] ⟨0,t4,⟨hk.1,rfl⟩,rfl,h⟩ ?_
  rintro _ _ ⟨o5_1,o5_0,⟨hi,rfl⟩,rfl,h⟩
  refine ww ?_
  refine condS (fun c6=>?_) (fun c6=>?_)
  ·obtain⟨xo5,hxo5,hd⟩:=countY (show(o5_1:Int)<(t4.length:Int)from c6)
   rw[hd,F105_l5]at h
   refine ww ?_
   obtain⟨y7,hy7,h⟩:=bi h
   refine t_idxO (enc:=eManager) (xs:=o5_0) rfl rfl rfl (by first|rfl|simp only[List.length_set]|exact(clrL_len (slI_len (by assumption))).symm) hy7 (ww ?_)
   refine LdRow.rd (rdI_some hy7).2.1 (ww ?_)
   obtain⟨t8,ht8,h⟩:=bi h
   refine cN [] (F61_ok ht8) trivial (ww ?_)
   obtain⟨y9,hy9,h⟩:=bi h
   refine t_idxO (enc:=eManager) (xs:=o5_0) rfl rfl rfl (by first|rfl|simp only[List.length_set]|exact(clrL_len (slI_len (by assumption))).symm) hy9 (ww ?_)
   refine StRow.rd (y':=(⟨y9.Name,t8⟩:Manager)) (rdI_some hy9).2.1 (by simp[EE.down]) (by first|rfl|(simp only[bor_full'];rfl)) (ww ?_)
   rw[wrapN (by omega)]
   exact eL' (t4.length-(o5_1+1)) [some 0,some 1,some 2,some 3,some 4,some 5] ⟨o5_1+1,(o5_0.set ((o5_1:Int)).toNat ((⟨y9.Name,t8⟩:Manager))),⟨by omega,rfl⟩,rfl,h⟩ (by omega)
  rw[countN (show¬((o5_1:Int)<(t4.length:Int))from c6),F105_l5]at h
  refine ww ?_
  cases h
  exact eM [some 0,some 1,some 2,some 3,some 4,some 5] rfl
 rintro _ rfl
 clear ho
 refine ww ?_
 obtain⟨t11,ht11,h⟩:=bi h
 refine cN [] (F146_ok ht11) trivial (ww ?_)
 obtain⟨t12,ht12,h⟩:=bi h
 refine cN [] (F146_ok ht12) trivial (ww ?_)
 cases h
 exact eF [some 1,some 2,some 3,some 4]
def F115_l1:List Object→Nat→(List Object)→Option ((List Object))
 |[],o1_1,o1_0=>some o1_0
 |xo1::xs,o1_1,o1_0=>(F105 xo1).bind fun t3=>(apI o1_0 ([(⟨(⟨xo1.Meta.Kind,xo1.Meta.Namespace,xo1.Meta.Name,xo1.Meta.Uid,xo1.Meta.Version,xo1.Meta.Generation,xo1.Meta.Created,xo1.Meta.Deleting,xo1.Meta.DeleteAt,t3.1,t3.2.1,t3.2.2.1,t3.2.2.2.1⟩:Meta),(⟨t3.2.2.2.2.1,t3.2.2.2.2.2.1,t3.2.2.2.2.2.2.1,t3.2.2.2.2.2.2.2.1,t3.2.2.2.2.2.2.2.2.1⟩:TValue),(⟨t3.2.2.2.2.2.2.2.2.2.1,t3.2.2.2.2.2.2.2.2.2.2.1,t3.2.2.2.2.2.2.2.2.2.2.2.1,t3.2.2.2.2.2.2.2.2.2.2.2.2.1,t3.2.2.2.2.2.2.2.2.2.2.2.2.2⟩:TValue)⟩:Object)])).bind fun a4=>F115_l1 xs (o1_1+1) a4
def F115(x0:(List Object)):Option ((List Object)):=(((ck (0≤x0.length∧x0.length≤4294967290)).bind fun u5=>F115_l1 x0 0 ([])).bind fun o1=>some o1)
def a115:AFn:=⟨19,[(.tmp 2)],
 (.seq (.reg [sq 2 (.mv kN)])
 (.seq (.reg [sq 3 (.mv kN)])
 (.seq (.seq (.reg [sq 6 (.mv (.t 0)),
sq 7 (.len (.t 6)),
sq 8 (.mv (kI 0))])
 (.sem (.block 0 (.loop (.seq (.reg [sq 9 (.bin .lss (.t 8) (.t 7))])
 (.seq (.cond (.t 9)
 .skip
 (.exit 0))
 (.seq (.block 1 (.seq (.reg [sq 10 (.indexA 23 (.t 6) (.t 8)),
sq 11 (.load (some 23) (.t 10)),
sq 5 (.zbox [dS ⟨#[]⟩,dS ⟨#[]⟩,dS ⟨#[]⟩,dI 0,dI 0,dI 0,dI 0,dB false,dI 0,dN,dN,dN,dN,dI 0,dI 0,dS ⟨#[]⟩,dN,dN,dI 0,dI 0,dS ⟨#[]⟩,dN,dN]),
su (.store 23 (.t 5) (.t 11))])
 (.reg [sq 12 (.mv (.t 3)),
sq 13 (.load (some 23) (.t 5)),
sq 14 (.call 105 [(.t 13)]),
sq 15 (.bslice 23 [(.t 14)]),
sq 16 (.app 23 352 (.t 12) (.t 15)),
sq 3 (.mv (.t 16))])))
 (.reg [sq 17 (.bin .add (.t 8) (kI 1)),
sq 8 (.mv (.t 17))]))))))))
 (.seq (.reg [sq 18 (.mv (.t 3)),
sq 2 (.mv (.t 18))])
 .ret))))⟩
theorem F115_ok{x0 r}(h:F115 x0=some r):CallD Tryz.prog 115 [.c (dM (x0.map eObject))] [] (tupV [.c (.own 0 0 0 (r.length) none)]) [some (.arr 0 23 (r.map eObject))]:=by
 rw[F115]at h
 refine zc a115 (by kernel_rfl) rfl (ww ?_)
 obtain⟨o1,ho,h⟩:=bi h
 refine cutS (fun s=>s=⟨[(3,.one (.c (.own 0 0 0 (o1.length) none)))],[some (.arr 0 23 (o1.map eObject))]⟩) ?_ ?_
 ·have h:=ho
  clear ho
  obtain⟨_,hk,h⟩:=bi h
  have hk:=ck_some hk
  refine ww ?_
  refine bL (fun j s=>∃(o1_1:Nat) (o1_0:List Object),(o1_1≤x0.length∧j=x0.length-o1_1)∧s=⟨[(3,.one (.c (.own 0 0 0 (o1_0.length) none))),(6,.one (.c (dM (x0.map eObject)))),(7,.one (.c (dI ((x0.length:Int))))),(8,.one (.c (dI ((o1_1:Int)))))],[some (.arr 0 23 (o1_0.map eObject))]⟩∧F115_l1 (x0.drop o1_1) o1_1 o1_0=some o1) (x0.length-0) [none] ⟨0,[],⟨hk.1,rfl⟩,rfl,h⟩ ?_
  rintro _ _ ⟨o1_1,o1_0,⟨hi,rfl⟩,rfl,h⟩
  refine ww ?_
  refine condS (fun c2=>?_) (fun c2=>?_)
  ·obtain⟨xo1,hxo1,hd⟩:=countY (show(o1_1:Int)<(x0.length:Int)from c2)
   rw[hd,F115_l1]at h
   refine ww ?_
   refine t_idxF (enc:=eObject) (xs:=x0) rfl rfl hxo1 rfl (ww ?_)
   obtain⟨t3,ht3,h⟩:=bi h
   refine cN [] (F105_ok ht3) trivial (ww ?_)
   refine t_bslice (enc:=eObject) (ys:=[(⟨(⟨xo1.Meta.Kind,xo1.Meta.Namespace,xo1.Meta.Name,xo1.Meta.Uid,xo1.Meta.Version,xo1.Meta.Generation,xo1.Meta.Created,xo1.Meta.Deleting,xo1.Meta.DeleteAt,t3.1,t3.2.1,t3.2.2.1,t3.2.2.2.1⟩:Meta),(⟨t3.2.2.2.2.1,t3.2.2.2.2.2.1,t3.2.2.2.2.2.2.1,t3.2.2.2.2.2.2.2.1,t3.2.2.2.2.2.2.2.2.1⟩:TValue),(⟨t3.2.2.2.2.2.2.2.2.2.1,t3.2.2.2.2.2.2.2.2.2.2.1,t3.2.2.2.2.2.2.2.2.2.2.2.1,t3.2.2.2.2.2.2.2.2.2.2.2.2.1,t3.2.2.2.2.2.2.2.2.2.2.2.2.2⟩:TValue)⟩:Object)]) rfl rfl (by simp[A1.cells]) (by first|rfl|(simp only[List.drop_zero,take_mapL];rfl)|(simp only[lit,List.map_cons,List.map_nil,List.drop_zero,take_mapL,EE.down];done)|(simp only[lit,List.map_cons,List.map_nil,List.drop_zero,take_mapL,EE.down];rfl)) (ww ?_)
   obtain⟨a4,ha4,h⟩:=bi h
   refine t_app (enc:=eObject) (xs:=o1_0) rfl rfl (by first|rfl|simp only[List.length_set]|exact(clrL_len (slI_len (by assumption))).symm) rfl (rows_full (enc:=eObject) (by first|rfl|simp only[List.length_set]|exact(clrL_len (slI_len (by assumption))).symm) rfl) ha4 (ww ?_)
   rw[wrapN (by omega)]
   exact eL' (x0.length-(o1_1+1)) [some 0] ⟨o1_1+1,a4,⟨by omega,rfl⟩,rfl,h⟩ (by omega)
  rw[countN (show¬((o1_1:Int)<(x0.length:Int))from c2),F115_l1]at h
  refine ww ?_
  cases h
  exact eM [some 0] rfl
 rintro _ rfl
 clear ho
 refine ww ?_
 cases h
 exact eF [some 0]
def F84(x0:Filter)(x1:Object):Option (Bool):=(((if x0.Kind=(⟨#[]⟩:ByteArray)then(if x0.Namespace=(⟨#[]⟩:ByteArray)then(F117 x0.Selector x1.Meta.Labels).bind fun t4=>some t4 else(if x0.Namespace=x1.Meta.Namespace then(F117 x0.Selector x1.Meta.Labels).bind fun t6=>some t6 else some false))else(if x0.Kind=x1.Meta.Kind then(if x0.Namespace=(⟨#[]⟩:ByteArray)then(F117 x0.Selector x1.Meta.Labels).bind fun t9=>some t9 else(if x0.Namespace=x1.Meta.Namespace then(F117 x0.Selector x1.Meta.Labels).bind fun t11=>some t11 else some false))else some false))).bind fun o1=>some o1)
def a84:AFn:=⟨37,[(.tmp 4)],
 (.seq (.reg [sq 2 (.box (.t 0)),
sq 3 (.box (.t 1)),
sq 4 (.mv (kB false))])
 (.seq (.sem (.reg [sq 5 (.fieldA 0 (.t 2)),
sq 6 (.load none (.t 5)),
sq 7 (.bin .eql (.t 6) (kS ⟨#[]⟩)),
sq 8 (.mv (.t 7)),
zg 9 8 false (.fieldA 0 (.t 2)),
zg 10 8 false (.load none (.t 9)),
zg 11 8 false (.fieldA 0 (.t 3)),
zg 12 8 false (.fieldA 0 (.t 11)),
zg 13 8 false (.load none (.t 12)),
zg 14 8 false (.bin .eql (.t 10) (.t 13)),
sq 15 (.pick (.t 8) (kB true) (.t 14)),
sq 16 (.mv (.t 15)),
zg 17 16 true (.fieldA 1 (.t 2)),
zg 18 16 true (.load none (.t 17)),
zg 19 16 true (.bin .eql (.t 18) (kS ⟨#[]⟩)),
zg 20 16 true (.mv (.t 19)),
zg 21 20 false (.fieldA 1 (.t 2)),
zg 22 20 false (.load none (.t 21)),
zg 23 20 false (.fieldA 0 (.t 3)),
zg 24 20 false (.fieldA 1 (.t 23)),
zg 25 20 false (.load none (.t 24)),
zg 26 20 false (.bin .eql (.t 22) (.t 25)),
zg 27 16 true (.pick (.t 20) (kB true) (.t 26)),
sq 28 (.pick (.t 16) (.t 27) (kB false)),
sq 29 (.mv (.t 28)),
zg 30 29 true (.fieldA 2 (.t 2)),
zg 31 29 true (.load none (.t 30)),
zg 32 29 true (.fieldA 0 (.t 3)),
zg 33 29 true (.fieldA 9 (.t 32)),
zg 34 29 true (.load none (.t 33)),
zg 35 29 true (.call 117 [(.t 31),(.t 34)]),
sq 36 (.pick (.t 29) (.t 35) (kB false)),
sq 4 (.mv (.t 36))]))
 .ret))⟩
theorem F84_ok{x0 x1 r}(h:F84 x0 x1=some r):CallD Tryz.prog 84 [.agg [dS x0.Kind,dS x0.Namespace,dM (x0.Selector.map eRequirement)],.agg [dS x1.Meta.Kind,dS x1.Meta.Namespace,dS x1.Meta.Name,dI x1.Meta.Uid,dI x1.Meta.Version,dI x1.Meta.Generation,dI x1.Meta.Created,dB x1.Meta.Deleting,dI x1.Meta.DeleteAt,dM (x1.Meta.Labels.map eLabel),dM (x1.Meta.Owners.map eOwner),dM (x1.Meta.Finalizers.map eS),dM (x1.Meta.Managers.map eManager),dI x1.Spec.Kind,dI x1.Spec.N,dS x1.Spec.S,dM (x1.Spec.List_.map eTValue),dM (x1.Spec.Fields.map eTField),dI x1.Status.Kind,dI x1.Status.N,dS x1.Status.S,dM (x1.Status.List_.map eTValue),dM (x1.Status.Fields.map eTField)]] [] (tupV [.c (dB r)]) []:=by
 rw[F84]at h
 refine zc a84 (by kernel_rfl) rfl (ww ?_)
 obtain⟨o1,ho,h⟩:=bi h
 refine cutS (fun s=>s=⟨[(4,.one (.c (dB o1)))],[]⟩) ?_ ?_
 ·have h:=ho
  clear ho
  refine ww ?_
  refine guardSh h (fun g2 h=>?_) (fun g2 h=>?_)
  ·refine ww ?_
   refine guardSh h (fun g3 h=>?_) (fun g3 h=>?_)
   ·refine ww ?_
    obtain⟨t4,ht4,h⟩:=bi h
    refine cN [] (F117_ok ht4) trivial (ww ?_)
    cases h
    exact eM [] rfl
   refine ww ?_
   refine guardSh h (fun g5 h=>?_) (fun g5 h=>?_)
   ·refine ww ?_
    obtain⟨t6,ht6,h⟩:=bi h
    refine cN [] (F117_ok ht6) trivial (ww ?_)
    cases h
    exact eM [] rfl
   refine ww ?_
   cases h
   exact eM [] rfl
  refine ww ?_
  refine guardSh h (fun g7 h=>?_) (fun g7 h=>?_)
  ·refine ww ?_
   refine guardSh h (fun g8 h=>?_) (fun g8 h=>?_)
   ·refine ww ?_
    obtain⟨t9,ht9,h⟩:=bi h
    refine cN [] (F117_ok ht9) trivial (ww ?_)
    cases h
    exact eM [] rfl
   refine ww ?_
   refine guardSh h (fun g10 h=>?_) (fun g10 h=>?_)
   ·refine ww ?_
    obtain⟨t11,ht11,h⟩:=bi h
    refine cN [] (F117_ok ht11) trivial (ww ?_)
    cases h
    exact eM [] rfl
   refine ww ?_
   cases h
   exact eM [] rfl
  refine ww ?_
  cases h
  exact eM [] rfl
 rintro _ rfl
 clear ho
 refine ww ?_
 cases h
 exact eF []
def F85(x0:Filter)(x1:Change)(x2:Bool):Option (Int):=(((if x1.Kind=1 then(F84 x0 x1.Object).bind fun t3=>some t3 else some false)).bind fun o1=>(((if o1=true then some x2 else some false)).bind fun o4=>(if o4=true then some 2 else(if o1=true then some 1 else(if x2=true then some 3 else some 0)))))
def a85:AFn:=⟨26,[(.tmp 6)],
 (.seq (.reg [sq 3 (.box (.t 0)),
sq 4 (.box (.t 1)),
sq 6 (.mv (kI 0))])
 (.seq (.sem (.reg [sq 8 (.fieldA 1 (.t 4)),
sq 9 (.load none (.t 8)),
sq 10 (.bin .eql (.t 9) (kI 1)),
sq 11 (.mv (.t 10)),
zg 12 11 true (.load (some 3) (.t 3)),
zg 13 11 true (.fieldA 2 (.t 4)),
zg 14 11 true (.load (some 23) (.t 13)),
zg 15 11 true (.call 84 [(.t 12),(.t 14)]),
sq 16 (.pick (.t 11) (.t 15) (kB false)),
sq 7 (.mv (.t 16))]))
 (.seq (.block 0 (.seq (.sem (.reg [sq 18 (.mv (.t 7)),
sq 19 (.mv (.t 18)),
zg 20 19 true (.mv (.t 2)),
sq 21 (.pick (.t 19) (.t 20) (kB false)),
sq 17 (.mv (.t 21))]))
 (.cond (.t 17)
 (.seq (.reg [sq 6 (.mv (kI 2))])
 .ret)
 (.seq (.reg [sq 23 (.mv (.t 7)),
sq 22 (.mv (.t 23))])
 (.cond (.t 22)
 (.seq (.reg [sq 6 (.mv (kI 1))])
 .ret)
 (.seq (.reg [sq 25 (.mv (.t 2)),
sq 24 (.mv (.t 25))])
 (.cond (.t 24)
 (.seq (.reg [sq 6 (.mv (kI 3))])
 .ret)
 .skip)))))))
 (.seq (.reg [sq 6 (.mv (kI 0))])
 .ret))))⟩
theorem F85_ok{x0 x1 x2 r}(h:F85 x0 x1 x2=some r):CallD Tryz.prog 85 [.agg [dS x0.Kind,dS x0.Namespace,dM (x0.Selector.map eRequirement)],.agg [dI x1.Rev,dI x1.Kind,dS x1.Object.Meta.Kind,dS x1.Object.Meta.Namespace,dS x1.Object.Meta.Name,dI x1.Object.Meta.Uid,dI x1.Object.Meta.Version,dI x1.Object.Meta.Generation,dI x1.Object.Meta.Created,dB x1.Object.Meta.Deleting,dI x1.Object.Meta.DeleteAt,dM (x1.Object.Meta.Labels.map eLabel),dM (x1.Object.Meta.Owners.map eOwner),dM (x1.Object.Meta.Finalizers.map eS),dM (x1.Object.Meta.Managers.map eManager),dI x1.Object.Spec.Kind,dI x1.Object.Spec.N,dS x1.Object.Spec.S,dM (x1.Object.Spec.List_.map eTValue),dM (x1.Object.Spec.Fields.map eTField),dI x1.Object.Status.Kind,dI x1.Object.Status.N,dS x1.Object.Status.S,dM (x1.Object.Status.List_.map eTValue),dM (x1.Object.Status.Fields.map eTField)],.c (dB x2)] [] (tupV [.c (dI r)]) []:=by
 rw[F85]at h
 refine zc a85 (by kernel_rfl) rfl (ww ?_)
 obtain⟨o1,ho,h⟩:=bi h
 refine cutS (fun s=>s=⟨[(2,.one (.c (dB x2))),(7,.one (.c (dB o1)))],[]⟩) ?_ ?_
 ·have h:=ho
  clear ho
  refine ww ?_
  refine guardSh h (fun g2 h=>?_) (fun g2 h=>?_)
  ·refine ww ?_
   obtain⟨t3,ht3,h⟩:=bi h
   refine cN [] (F84_ok ht3) trivial (ww ?_)
   cases h
   exact eM [] rfl
  refine ww ?_
  cases h
  exact eM [] rfl
 rintro _ rfl
 clear ho
 refine ww ?_
 obtain⟨o4,ho,h⟩:=bi h
 refine cutS (fun s=>s=⟨[(2,.one (.c (dB x2))),(7,.one (.c (dB o1))),(17,.one (.c (dB o4)))],[]⟩) ?_ ?_
 ·have h:=ho
  clear ho
  refine ww ?_
  refine guardSBh h (fun g5 h=>?_) (fun g5 h=>?_)
  ·refine ww ?_
   cases h
   exact eM [] rfl
  refine ww ?_
  cases h
  exact eM [] rfl
 rintro _ rfl
 clear ho
 refine ww ?_
 refine condBh h (fun c6 h=>?_) (fun c6 h=>?_)
 ·refine ww ?_
  cases h
  exact eF []
 refine ww ?_
 refine condBh h (fun c7 h=>?_) (fun c7 h=>?_)
 ·refine ww ?_
  cases h
  exact eF []
 refine ww ?_
 refine condBh h (fun c8 h=>?_) (fun c8 h=>?_)
 ·refine ww ?_
  cases h
  exact eF []
 refine ww ?_
 cases h
 exact eF []
def F119(x0:Filter)(x1:Object):Option (Bool):=(((if x0.Kind=(⟨#[]⟩:ByteArray)then(if x0.Namespace=(⟨#[]⟩:ByteArray)then(F117 x0.Selector x1.Meta.Labels).bind fun t4=>some t4 else(if x0.Namespace=x1.Meta.Namespace then(F117 x0.Selector x1.Meta.Labels).bind fun t6=>some t6 else some false))else(if x0.Kind=x1.Meta.Kind then(if x0.Namespace=(⟨#[]⟩:ByteArray)then(F117 x0.Selector x1.Meta.Labels).bind fun t9=>some t9 else(if x0.Namespace=x1.Meta.Namespace then(F117 x0.Selector x1.Meta.Labels).bind fun t11=>some t11 else some false))else some false))).bind fun o1=>some o1)
def a119:AFn:=⟨37,[(.tmp 4)],
 (.seq (.reg [sq 2 (.box (.t 0)),
sq 3 (.box (.t 1)),
sq 4 (.mv (kB false))])
 (.seq (.sem (.reg [sq 5 (.fieldA 0 (.t 2)),
sq 6 (.load none (.t 5)),
sq 7 (.bin .eql (.t 6) (kS ⟨#[]⟩)),
sq 8 (.mv (.t 7)),
zg 9 8 false (.fieldA 0 (.t 2)),
zg 10 8 false (.load none (.t 9)),
zg 11 8 false (.fieldA 0 (.t 3)),
zg 12 8 false (.fieldA 0 (.t 11)),
zg 13 8 false (.load none (.t 12)),
zg 14 8 false (.bin .eql (.t 10) (.t 13)),
sq 15 (.pick (.t 8) (kB true) (.t 14)),
sq 16 (.mv (.t 15)),
zg 17 16 true (.fieldA 1 (.t 2)),
zg 18 16 true (.load none (.t 17)),
zg 19 16 true (.bin .eql (.t 18) (kS ⟨#[]⟩)),
zg 20 16 true (.mv (.t 19)),
zg 21 20 false (.fieldA 1 (.t 2)),
zg 22 20 false (.load none (.t 21)),
zg 23 20 false (.fieldA 0 (.t 3)),
zg 24 20 false (.fieldA 1 (.t 23)),
zg 25 20 false (.load none (.t 24)),
zg 26 20 false (.bin .eql (.t 22) (.t 25)),
zg 27 16 true (.pick (.t 20) (kB true) (.t 26)),
sq 28 (.pick (.t 16) (.t 27) (kB false)),
sq 29 (.mv (.t 28)),
zg 30 29 true (.fieldA 2 (.t 2)),
zg 31 29 true (.load none (.t 30)),
zg 32 29 true (.fieldA 0 (.t 3)),
zg 33 29 true (.fieldA 9 (.t 32)),
zg 34 29 true (.load none (.t 33)),
zg 35 29 true (.call 117 [(.t 31),(.t 34)]),
sq 36 (.pick (.t 29) (.t 35) (kB false)),
sq 4 (.mv (.t 36))]))
 .ret))⟩
theorem F119_ok{x0 x1 r}(h:F119 x0 x1=some r):CallD Tryz.prog 119 [.agg [dS x0.Kind,dS x0.Namespace,dM (x0.Selector.map eRequirement)],.agg [dS x1.Meta.Kind,dS x1.Meta.Namespace,dS x1.Meta.Name,dI x1.Meta.Uid,dI x1.Meta.Version,dI x1.Meta.Generation,dI x1.Meta.Created,dB x1.Meta.Deleting,dI x1.Meta.DeleteAt,dM (x1.Meta.Labels.map eLabel),dM (x1.Meta.Owners.map eOwner),dM (x1.Meta.Finalizers.map eS),dM (x1.Meta.Managers.map eManager),dI x1.Spec.Kind,dI x1.Spec.N,dS x1.Spec.S,dM (x1.Spec.List_.map eTValue),dM (x1.Spec.Fields.map eTField),dI x1.Status.Kind,dI x1.Status.N,dS x1.Status.S,dM (x1.Status.List_.map eTValue),dM (x1.Status.Fields.map eTField)]] [] (tupV [.c (dB r)]) []:=by
 rw[F119]at h
 refine zc a119 (by kernel_rfl) rfl (ww ?_)
 obtain⟨o1,ho,h⟩:=bi h
 refine cutS (fun s=>s=⟨[(4,.one (.c (dB o1)))],[]⟩) ?_ ?_
 ·have h:=ho
  clear ho
  refine ww ?_
  refine guardSh h (fun g2 h=>?_) (fun g2 h=>?_)
  ·refine ww ?_
   refine guardSh h (fun g3 h=>?_) (fun g3 h=>?_)
   ·refine ww ?_
    obtain⟨t4,ht4,h⟩:=bi h
    refine cN [] (F117_ok ht4) trivial (ww ?_)
    cases h
    exact eM [] rfl
   refine ww ?_
   refine guardSh h (fun g5 h=>?_) (fun g5 h=>?_)
   ·refine ww ?_
    obtain⟨t6,ht6,h⟩:=bi h
    refine cN [] (F117_ok ht6) trivial (ww ?_)
    cases h
    exact eM [] rfl
   refine ww ?_
   cases h
   exact eM [] rfl
  refine ww ?_
  refine guardSh h (fun g7 h=>?_) (fun g7 h=>?_)
  ·refine ww ?_
   refine guardSh h (fun g8 h=>?_) (fun g8 h=>?_)
   ·refine ww ?_
    obtain⟨t9,ht9,h⟩:=bi h
    refine cN [] (F117_ok ht9) trivial (ww ?_)
    cases h
    exact eM [] rfl
   refine ww ?_
   refine guardSh h (fun g10 h=>?_) (fun g10 h=>?_)
   ·refine ww ?_
    obtain⟨t11,ht11,h⟩:=bi h
    refine cN [] (F117_ok ht11) trivial (ww ?_)
    cases h
    exact eM [] rfl
   refine ww ?_
   cases h
   exact eM [] rfl
  refine ww ?_
  cases h
  exact eM [] rfl
 rintro _ rfl
 clear ho
 refine ww ?_
 cases h
 exact eF []
def F87_l1(x1:Filter):List Object→Nat→(List Object)→Option ((List Object))
 |[],o1_1,o1_0=>some o1_0
 |xo1::xs,o1_1,o1_0=>(((F119 x1 xo1).bind fun t4=>(if t4=true then(F105 xo1).bind fun t6=>(apI o1_0 ([(⟨(⟨xo1.Meta.Kind,xo1.Meta.Namespace,xo1.Meta.Name,xo1.Meta.Uid,xo1.Meta.Version,xo1.Meta.Generation,xo1.Meta.Created,xo1.Meta.Deleting,xo1.Meta.DeleteAt,t6.1,t6.2.1,t6.2.2.1,t6.2.2.2.1⟩:Meta),(⟨t6.2.2.2.2.1,t6.2.2.2.2.2.1,t6.2.2.2.2.2.2.1,t6.2.2.2.2.2.2.2.1,t6.2.2.2.2.2.2.2.2.1⟩:TValue),(⟨t6.2.2.2.2.2.2.2.2.2.1,t6.2.2.2.2.2.2.2.2.2.2.1,t6.2.2.2.2.2.2.2.2.2.2.2.1,t6.2.2.2.2.2.2.2.2.2.2.2.2.1,t6.2.2.2.2.2.2.2.2.2.2.2.2.2⟩:TValue)⟩:Object)])).bind fun a7=>some a7 else some o1_0)).bind fun o3=>F87_l1 x1 xs (o1_1+1) o3)
def F87(x0:TStore)(x1:Filter):Option ((List Object)):=(((ck (0≤x0.Objects.length∧x0.Objects.length≤4294967290)).bind fun u8=>F87_l1 x1 x0.Objects 0 ([])).bind fun o1=>some o1)
def a87:AFn:=⟨25,[(.tmp 4)],
 (.seq (.reg [sq 2 (.box (.t 0)),
sq 3 (.box (.t 1)),
sq 4 (.mv kN)])
 (.seq (.reg [sq 5 (.mv kN)])
 (.seq (.seq (.reg [sq 8 (.fieldA 4 (.t 2)),
sq 9 (.load none (.t 8)),
sq 10 (.len (.t 9)),
sq 11 (.mv (kI 0))])
 (.sem (.block 0 (.loop (.seq (.reg [sq 12 (.bin .lss (.t 11) (.t 10))])
 (.seq (.cond (.t 12)
 .skip
 (.exit 0))
 (.seq (.sem (.block 1 (.seq (.reg [sq 13 (.indexA 23 (.t 9) (.t 11)),
sq 14 (.load (some 23) (.t 13)),
sq 7 (.zbox [dS ⟨#[]⟩,dS ⟨#[]⟩,dS ⟨#[]⟩,dI 0,dI 0,dI 0,dI 0,dB false,dI 0,dN,dN,dN,dN,dI 0,dI 0,dS ⟨#[]⟩,dN,dN,dI 0,dI 0,dS ⟨#[]⟩,dN,dN]),
su (.store 23 (.t 7) (.t 14))])
 (.seq (.reg [sq 15 (.load (some 3) (.t 3)),
sq 16 (.load (some 23) (.t 7)),
zl 17 (.call 119 [(.t 15),(.t 16)]) [] [3,7]])
 (.cond (.t 17)
 (.reg [sq 18 (.mv (.t 5)),
sq 19 (.load (some 23) (.t 7)),
sq 20 (.call 105 [(.t 19)]),
sq 21 (.bslice 23 [(.t 20)]),
sq 22 (.app 23 352 (.t 18) (.t 21)),
sq 5 (.mv (.t 22))])
 .skip)))))
 (.reg [sq 23 (.bin .add (.t 11) (kI 1)),
sq 11 (.mv (.t 23))]))))))))
 (.seq (.reg [sq 24 (.mv (.t 5)),
sq 4 (.mv (.t 24))])
 .ret))))⟩
theorem F87_ok{x0 x1 r}(h:F87 x0 x1=some r):CallD Tryz.prog 87 [.agg [dI x0.Rev,dI x0.Floor,dI x0.NextUid,dM (x0.Base.map eObject),dM (x0.Objects.map eObject),dM (x0.History.map eChange)],.agg [dS x1.Kind,dS x1.Namespace,dM (x1.Selector.map eRequirement)]] [] (tupV [.c (.own 0 0 0 (r.length) none)]) [some (.arr 0 23 (r.map eObject))]:=by
 rw[F87]at h
 refine zc a87 (by kernel_rfl) rfl (ww ?_)
 obtain⟨o1,ho,h⟩:=bi h
 refine cutS (fun s=>s=⟨[(5,.one (.c (.own 0 0 0 (o1.length) none)))],[some (.arr 0 23 (o1.map eObject))]⟩) ?_ ?_
 ·have h:=ho
  clear ho
  obtain⟨_,hk,h⟩:=bi h
  have hk:=ck_some hk
  refine ww ?_
  refine bL (fun j s=>∃(o1_1:Nat) (o1_0:List Object),(o1_1≤x0.Objects.length∧j=x0.Objects.length-o1_1)∧s=⟨[(3,.one (.c (.pt 0 0))),(5,.one (.c (.own 1 0 0 (o1_0.length) none))),(9,.one (.c (dM (x0.Objects.map eObject)))),(10,.one (.c (dI ((x0.Objects.length:Int))))),(11,.one (.c (dI ((o1_1:Int)))))],[some (.box [dS x1.Kind,dS x1.Namespace,dM (x1.Selector.map eRequirement)]),some (.arr 0 23 (o1_0.map eObject))]⟩∧F87_l1 x1 (x0.Objects.drop o1_1) o1_1 o1_0=some o1) (x0.Objects.length-0) [some 1,none] ⟨0,[],⟨hk.1,rfl⟩,rfl,h⟩ ?_
  rintro _ _ ⟨o1_1,o1_0,⟨hi,rfl⟩,rfl,h⟩
  refine ww ?_
  refine condS (fun c2=>?_) (fun c2=>?_)
  ·obtain⟨xo1,hxo1,hd⟩:=countY (show(o1_1:Int)<(x0.Objects.length:Int)from c2)
   rw[hd,F87_l1]at h
   refine ww ?_
   obtain⟨o3,ho,h⟩:=bi h
   refine cutS (fun s=>s=⟨[(3,.one (.c (.pt 0 0))),(5,.one (.c (.own 1 0 0 (o3.length) none))),(9,.one (.c (dM (x0.Objects.map eObject)))),(10,.one (.c (dI ((x0.Objects.length:Int))))),(11,.one (.c (dI ((o1_1:Int)))))],[some (.box [dS x1.Kind,dS x1.Namespace,dM (x1.Selector.map eRequirement)]),some (.arr 0 23 (o3.map eObject))]⟩) ?_ ?_
   ·have h:=ho
    clear ho
    refine ww ?_
    refine t_idxF (enc:=eObject) (xs:=x0.Objects) rfl rfl hxo1 rfl (ww ?_)
    obtain⟨t4,ht4,h⟩:=bi h
    refine cN [] (F119_ok ht4) trivial (ww ?_)
    refine condBh h (fun c5 h=>?_) (fun c5 h=>?_)
    ·refine ww ?_
     obtain⟨t6,ht6,h⟩:=bi h
     refine cN [] (F105_ok ht6) trivial (ww ?_)
     refine t_bslice (enc:=eObject) (ys:=[(⟨(⟨xo1.Meta.Kind,xo1.Meta.Namespace,xo1.Meta.Name,xo1.Meta.Uid,xo1.Meta.Version,xo1.Meta.Generation,xo1.Meta.Created,xo1.Meta.Deleting,xo1.Meta.DeleteAt,t6.1,t6.2.1,t6.2.2.1,t6.2.2.2.1⟩:Meta),(⟨t6.2.2.2.2.1,t6.2.2.2.2.2.1,t6.2.2.2.2.2.2.1,t6.2.2.2.2.2.2.2.1,t6.2.2.2.2.2.2.2.2.1⟩:TValue),(⟨t6.2.2.2.2.2.2.2.2.2.1,t6.2.2.2.2.2.2.2.2.2.2.1,t6.2.2.2.2.2.2.2.2.2.2.2.1,t6.2.2.2.2.2.2.2.2.2.2.2.2.1,t6.2.2.2.2.2.2.2.2.2.2.2.2.2⟩:TValue)⟩:Object)]) rfl rfl (by simp[A1.cells]) (by first|rfl|(simp only[List.drop_zero,take_mapL];rfl)|(simp only[lit,List.map_cons,List.map_nil,List.drop_zero,take_mapL,EE.down];done)|(simp only[lit,List.map_cons,List.map_nil,List.drop_zero,take_mapL,EE.down];rfl)) (ww ?_)
     obtain⟨a7,ha7,h⟩:=bi h
     refine t_app (enc:=eObject) (xs:=o1_0) rfl rfl (by first|rfl|simp only[List.length_set]|exact(clrL_len (slI_len (by assumption))).symm) rfl (rows_full (enc:=eObject) (by first|rfl|simp only[List.length_set]|exact(clrL_len (slI_len (by assumption))).symm) rfl) ha7 (ww ?_)
     cases h
     exact eM [some 0,some 1] rfl
    refine ww ?_
    cases h
    exact eM [some 0,some 1] rfl
   rintro _ rfl
   clear ho
   refine ww ?_
   rw[wrapN (by omega)]
   exact eL' (x0.Objects.length-(o1_1+1)) [some 0,some 1] ⟨o1_1+1,o3,⟨by omega,rfl⟩,rfl,h⟩ (by omega)
  rw[countN (show¬((o1_1:Int)<(x0.Objects.length:Int))from c2),F87_l1]at h
  refine ww ?_
  cases h
  exact eM [some 1] rfl
 rintro _ rfl
 clear ho
 refine ww ?_
 cases h
 exact eF [some 0]
def F47(x0:TStore)(x1:Cache):Option ((List Requirement)×(List Object)):=(F34 x1.Filter).bind fun t1=>(F87 x0 x1.Filter).bind fun t2=>some ((t1,t2))
def a47:AFn:=⟨15,[(.cell 4 (some 6))],
 (.seq (.reg [sq 2 (.box (.t 0)),
sq 3 (.box (.t 1)),
sq 4 (.zbox [dS ⟨#[]⟩,dS ⟨#[]⟩,dN,dI 0,dB false,dN])])
 (.seq (.regd [sq 5 (.fieldA 0 (.t 3)),
sd 6 (.load (some 3) (.t 5)) [0],
zn 7 (.call 34 [(.t 6)]) [0,1] [0,1],
sq 8 (.fieldA 0 (.t 2)),
sd 9 (.load none (.t 8)) [3],
sq 10 (.load (some 6) (.t 2)),
sq 11 (.fieldA 0 (.t 3)),
sd 12 (.load (some 3) (.t 11)) [6],
zl 13 (.call 87 [(.t 10),(.t 12)]) [0,1,2,5,6,7] [2,8],
zl 14 (.build [dS ⟨#[]⟩,dS ⟨#[]⟩,dN,dI 0,dB false,dN] [(0,3,(.t 7)),(3,1,(.t 9)),(4,1,(kB true)),(5,1,(.t 13))]) [0,1,2,3,4,5,6,7,8] [],
⟨none,none,.store 6 (.t 4) (.t 14),[0,1,2,3,4,5,6,7,8,9],(.lone [])⟩])
 .ret))⟩
theorem F47_ok{x0 x1 r}(h:F47 x0 x1=some r):CallD Tryz.prog 47 [.agg [dI x0.Rev,dI x0.Floor,dI x0.NextUid,dM (x0.Base.map eObject),dM (x0.Objects.map eObject),dM (x0.History.map eChange)],.agg [dS x1.Filter.Kind,dS x1.Filter.Namespace,dM (x1.Filter.Selector.map eRequirement),dI x1.Rev,dB x1.Synced,dM (x1.Objects.map eObject)]] [] (tupV [.agg [dS x1.Filter.Kind,dS x1.Filter.Namespace,.own 0 0 0 (r.1.length) none,dI x0.Rev,dB true,.own 1 0 0 (r.2.length) none]]) [some (.arr 0 3 (r.1.map eRequirement)),some (.arr 0 23 (r.2.map eObject))]:=by
 rw[F47]at h
 refine zc a47 (by kernel_rfl) rfl (ww ?_)
 obtain⟨t1,ht1,h⟩:=bi h
 refine cN [] (F34_ok ht1) trivial (ww ?_)
 refine kD_new (by simp[wrs,allW,hset]) (ww ?_)
 obtain⟨t2,ht2,h⟩:=bi h
 refine cN [] (F87_ok ht2) trivial (ww ?_)
 cases h
 exact eF [some 3,some 4]
end Go.Proofs.YtdkmamiedcanfaaGreat
