/- Each Go function as a function over typed data, and its walk. -/
import Derived.Test.YtdkmamiedcanfaaGreatW0
import Derived.Test.YtdkmamiedcanfaaGreatW2
import Derived.Test.YtdkmamiedcanfaaGreatW3
import Derived.Test.YtdkmamiedcanfaaGreatW4
namespace Go.Proofs.YtdkmamiedcanfaaGreat
open Go Go.Fw Go.Shelf
set_option maxRecDepth 100000
set_option maxHeartbeats 4000000
set_option linter.unusedSimpArgs false
set_option linter.unusedVariables false
def F30_l1(x0:Cache):Nat→Int→Option ((Bool) ⊕ (Unit))
 |0,_=>none
 |k+1,o1_0=>(if o1_0<(x0.Objects.length:Int)then(rdI x0.Objects ((IntKind.i64.wrap (o1_0-1)))).bind fun y3=>(F39 y3.Meta).bind fun t4=>(rdI x0.Objects o1_0).bind fun y5=>(F39 y5.Meta).bind fun t6=>(if(nb (Op.bytesLess t4.toList t6.toList))=true then(some false).map Sum.inl else F30_l1 x0 k ((IntKind.i64.wrap (o1_0+1))))else some (Sum.inr (())))
def F30(x0:Cache):Option (Bool):=((F30_l1 x0 1099511627776 1:Option ((Bool) ⊕ (Unit))).bind fun o1=>match o1 with|Sum.inl f=>some f|Sum.inr po1=>some true)
def a30:AFn:=⟨27,[(.tmp 2)],
 (.seq (.reg [sq 1 (.box (.t 0)),
sq 2 (.mv (kB false))])
 (.seq (.seq (.reg [sq 3 (.mv (kI 1))])
 (.sem (.block 0 (.loop (.seq (.seq (.reg [sq 4 (.mv (.t 3)),
sq 5 (.fieldA 5 (.t 1)),
sq 6 (.load none (.t 5)),
sq 7 (.len (.t 6)),
sq 8 (.bin .lss (.t 4) (.t 7))])
 (.cond (.t 8)
 .skip
 (.exit 0)))
 (.seq (.block 1 (.seq (.regd [sq 11 (.fieldA 5 (.t 1)),
sd 12 (.load none (.t 11)) [0],
sq 13 (.mv (.t 3)),
sd 14 (.bin .sub (.t 13) (kI 1)) [2],
sd 15 (.indexA 23 (.t 12) (.t 14)) [0,1,2,3],
sd 16 (.fieldA 0 (.t 15)) [0,1,2,3,4],
sd 17 (.load (some 13) (.t 16)) [0,1,2,3,4,5],
zn 18 (.call 39 [(.t 17)]) [0,1,2,3,4,5,6] [0,1,2,3,4,5,6],
sq 19 (.fieldA 5 (.t 1)),
sd 20 (.load none (.t 19)) [8],
sq 21 (.mv (.t 3)),
sd 22 (.indexA 23 (.t 20) (.t 21)) [8,9,10],
sd 23 (.fieldA 0 (.t 22)) [8,9,10,11],
sd 24 (.load (some 13) (.t 23)) [8,9,10,11,12],
zl 25 (.call 39 [(.t 24)]) [0,1,2,3,4,5,6,7,8,9,10,11,12,13] [],
sd 26 (.bin .geq (.t 18) (.t 25)) [0,1,2,3,4,5,6,7,8,9,10,11,12,13,14]])
 (.cond (.t 26)
 (.seq (.reg [sq 2 (.mv (kB false))])
 .ret)
 .skip)))
 (.reg [sq 9 (.mv (.t 3)),
sq 10 (.bin .add (.t 9) (kI 1)),
sq 3 (.mv (.t 10))])))))))
 (.seq (.reg [sq 2 (.mv (kB true))])
 .ret)))⟩
theorem F30_ok{x0 r}(h:F30 x0=some r):CallD Tryz.prog 30 [.agg [dS x0.Filter.Kind,dS x0.Filter.Namespace,dM (x0.Filter.Selector.map eRequirement),dI x0.Rev,dB x0.Synced,dM (x0.Objects.map eObject)]] [] (tupV [.c (dB r)]) []:=by
 rw[F30]at h
 refine zc a30 (by kernel_rfl) rfl (ww ?_)
 obtain⟨o1,ho,h⟩:=bi h
 refine cutS (fun s=>∃po1,o1=Sum.inr po1∧s=⟨[],[]⟩) ?_ ?_
 ·have h0o1:=h
  have h:=ho
  clear ho
  refine ww ?_
  refine bL (fun j s=>∃(o1_0:Int),s=⟨[(1,.one (.c (.pt 0 0))),(3,.one (.c (dI o1_0)))],[some (.box [dS x0.Filter.Kind,dS x0.Filter.Namespace,dM (x0.Filter.Selector.map eRequirement),dI x0.Rev,dB x0.Synced,dM (x0.Objects.map eObject)])]⟩∧F30_l1 x0 j o1_0=some o1) 1099511627776 [some 0] ⟨1,rfl,h⟩ ?_
  rintro j _ ⟨o1_0,rfl,h⟩
  cases j with
  |zero=>cases(show(none:Option _)=some _ from h)
  |succ j=>
   rw[F30_l1]at h
   refine ww ?_
   refine condSh h (fun c2 h=>?_) (fun c2 h=>?_)
   ·refine ww ?_
    obtain⟨y3,hy3,h⟩:=bi h
    refine t_idxF (enc:=eObject) (xs:=x0.Objects) rfl rfl hy3 rfl (ww ?_)
    obtain⟨t4,ht4,h⟩:=bi h
    refine cN [] (F39_ok ht4) trivial (ww ?_)
    obtain⟨y5,hy5,h⟩:=bi h
    refine t_idxF (enc:=eObject) (xs:=x0.Objects) rfl rfl hy5 rfl (ww ?_)
    obtain⟨t6,ht6,h⟩:=bi h
    refine cN [] (F39_ok ht6) trivial (ww ?_)
    refine condBh h (fun c7 h=>?_) (fun c7 h=>?_)
    ·refine ww ?_
     obtain⟨fh0o1,hfh0o1,rfl⟩:=Option.map_eq_some_iff.1 h
     have h:=hfh0o1.trans h0o1
     cases h
     exact eF []
    ·refine ww ?_
     exact eL' j [some 0] ⟨(IntKind.i64.wrap (o1_0+1)),rfl,h⟩ (Nat.lt_succ_self _)
   ·refine ww ?_
    cases h
    exact eM [] ⟨_,rfl,rfl⟩
 rintro _ ⟨po1,rfl,rfl⟩
 clear ho
 dsimp only at h
 refine ww ?_
 cases h
 exact eF []
def F8_l1(x0:Cache):Nat→Int→Int→Option (Int)
 |0,_,_=>none
 |k+1,o1_0,o1_1=>(((if o1_1<(x0.Objects.length:Int)then some (decide (o1_1≤40))else some false)).bind fun o2=>(if o2=true then(rdI x0.Objects o1_1).bind fun y5=>(F29 y5).bind fun t6=>F8_l1 x0 k ((IntKind.i64.wrap (o1_0+t6))) ((IntKind.i64.wrap (o1_1+1)))else some o1_0))
def F8(x0:Cache):Option (Bool):=((F8_l1 x0 1099511627776 0 0).bind fun o1=>(((if(x0.Objects.length:Int)≤40 then(if o1≤1500 then(F23 x0.Filter).bind fun t10=>(if t10=true then(F30 x0).bind fun t12=>some t12 else some false)else some false)else some false)).bind fun o7=>some o7))
def a8:AFn:=⟨41,[(.tmp 2)],
 (.seq (.reg [sq 1 (.box (.t 0)),
sq 2 (.mv (kB false))])
 (.seq (.reg [sq 3 (.mv (kI 0))])
 (.seq (.seq (.reg [sq 4 (.mv (kI 0))])
 (.sem (.block 0 (.loop (.seq (.seq (.sem (.reg [sq 5 (.mv (.t 4)),
sq 6 (.fieldA 5 (.t 1)),
sq 7 (.load none (.t 6)),
sq 8 (.len (.t 7)),
sq 9 (.bin .lss (.t 5) (.t 8)),
sq 10 (.mv (.t 9)),
zg 11 10 true (.mv (.t 4)),
zg 12 10 true (.bin .leq (.t 11) (kI 40)),
zl 13 (.pick (.t 10) (.t 12) (kB false)) [] [1,6,7]]))
 (.cond (.t 13)
 .skip
 (.exit 0)))
 (.seq (.block 1 (.reg [sq 16 (.mv (.t 3)),
sq 17 (.fieldA 5 (.t 1)),
sq 18 (.load none (.t 17)),
sq 19 (.mv (.t 4)),
sq 20 (.indexA 23 (.t 18) (.t 19)),
sq 21 (.load (some 23) (.t 20)),
sq 22 (.call 29 [(.t 21)]),
sq 23 (.bin .add (.t 16) (.t 22)),
sq 3 (.mv (.t 23))]))
 (.reg [sq 14 (.mv (.t 4)),
sq 15 (.bin .add (.t 14) (kI 1)),
sq 4 (.mv (.t 15))])))))))
 (.seq (.sem (.reg [sq 24 (.fieldA 5 (.t 1)),
sq 25 (.load none (.t 24)),
sq 26 (.len (.t 25)),
sq 27 (.bin .leq (.t 26) (kI 40)),
sq 28 (.mv (.t 27)),
zg 29 28 true (.mv (.t 3)),
zg 30 28 true (.bin .leq (.t 29) (kI 1500)),
sq 31 (.pick (.t 28) (.t 30) (kB false)),
sq 32 (.mv (.t 31)),
zg 33 32 true (.fieldA 0 (.t 1)),
zg 34 32 true (.load (some 3) (.t 33)),
zg 35 32 true (.call 23 [(.t 34)]),
sq 36 (.pick (.t 32) (.t 35) (kB false)),
sq 37 (.mv (.t 36)),
zg 38 37 true (.load (some 6) (.t 1)),
zg 39 37 true (.call 30 [(.t 38)]),
sq 40 (.pick (.t 37) (.t 39) (kB false)),
sq 2 (.mv (.t 40))]))
 .ret))))⟩
theorem F8_ok{x0 r}(h:F8 x0=some r):CallD Tryz.prog 8 [.agg [dS x0.Filter.Kind,dS x0.Filter.Namespace,dM (x0.Filter.Selector.map eRequirement),dI x0.Rev,dB x0.Synced,dM (x0.Objects.map eObject)]] [] (tupV [.c (dB r)]) []:=by
 rw[F8]at h
 refine zc a8 (by kernel_rfl) rfl (ww ?_)
 obtain⟨o1,ho,h⟩:=bi h
 refine cutS (fun s=>s=⟨[(1,.one (.c (.pt 0 0))),(3,.one (.c (dI o1)))],[some (.box [dS x0.Filter.Kind,dS x0.Filter.Namespace,dM (x0.Filter.Selector.map eRequirement),dI x0.Rev,dB x0.Synced,dM (x0.Objects.map eObject)])]⟩) ?_ ?_
 ·have h:=ho
  clear ho
  refine ww ?_
  refine bL (fun j s=>∃(o1_0:Int) (o1_1:Int),s=⟨[(1,.one (.c (.pt 0 0))),(3,.one (.c (dI o1_0))),(4,.one (.c (dI o1_1)))],[some (.box [dS x0.Filter.Kind,dS x0.Filter.Namespace,dM (x0.Filter.Selector.map eRequirement),dI x0.Rev,dB x0.Synced,dM (x0.Objects.map eObject)])]⟩∧F8_l1 x0 j o1_0 o1_1=some o1) 1099511627776 [some 0] ⟨0,0,rfl,h⟩ ?_
  rintro j _ ⟨o1_0,o1_1,rfl,h⟩
  cases j with
  |zero=>cases(show(none:Option _)=some _ from h)
  |succ j=>
   rw[F8_l1]at h
   refine ww ?_
   obtain⟨o2,ho,h⟩:=bi h
   refine cutS (fun s=>s=⟨[(1,.one (.c (.pt 0 0))),(3,.one (.c (dI o1_0))),(4,.one (.c (dI o1_1))),(13,.one (.c (dB o2)))],[some (.box [dS x0.Filter.Kind,dS x0.Filter.Namespace,dM (x0.Filter.Selector.map eRequirement),dI x0.Rev,dB x0.Synced,dM (x0.Objects.map eObject)])]⟩) ?_ ?_
   ·have h:=ho
    clear ho
    refine ww ?_
    refine guardSh h (fun g3 h=>?_) (fun g3 h=>?_)
    ·refine ww ?_
     cases h
     exact eM [some 0] rfl
    ·refine ww ?_
     cases h
     exact eM [some 0] rfl
   ·rintro _ rfl
    clear ho
    refine ww ?_
    refine condBh h (fun c4 h=>?_) (fun c4 h=>?_)
    ·refine ww ?_
     obtain⟨y5,hy5,h⟩:=bi h
     refine t_idxF (enc:=eObject) (xs:=x0.Objects) rfl rfl hy5 rfl (ww ?_)
     obtain⟨t6,ht6,h⟩:=bi h
     refine cN [] (F29_ok ht6) trivial (ww ?_)
     exact eL' j [some 0] ⟨(IntKind.i64.wrap (o1_0+t6)),(IntKind.i64.wrap (o1_1+1)),rfl,h⟩ (Nat.lt_succ_self _)
    ·refine ww ?_
     cases h
     exact eM [some 0] rfl
 rintro _ rfl
 clear ho
 refine ww ?_
 obtain⟨o7,ho,h⟩:=bi h
 refine cutS (fun s=>s=⟨[(2,.one (.c (dB o7)))],[]⟩) ?_ ?_
 ·have h:=ho
  clear ho
  refine ww ?_
  refine guardSh h (fun g8 h=>?_) (fun g8 h=>?_)
  ·refine ww ?_
   refine guardSh h (fun g9 h=>?_) (fun g9 h=>?_)
   ·refine ww ?_
    obtain⟨t10,ht10,h⟩:=bi h
    refine cN [] (F23_ok ht10) trivial (ww ?_)
    refine guardSBh h (fun g11 h=>?_) (fun g11 h=>?_)
    ·refine ww ?_
     obtain⟨t12,ht12,h⟩:=bi h
     refine cN [] (F30_ok ht12) trivial (ww ?_)
     cases h
     exact eM [] rfl
    refine ww ?_
    cases h
    exact eM [] rfl
   refine ww ?_
   cases h
   exact eM [] rfl
  refine ww ?_
  cases h
  exact eM [] rfl
 rintro _ rfl
 clear ho
 refine ww ?_
 cases h
 exact eF []
end Go.Proofs.YtdkmamiedcanfaaGreat
