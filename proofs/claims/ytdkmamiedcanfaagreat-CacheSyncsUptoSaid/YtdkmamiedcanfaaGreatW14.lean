/- Each Go function as a function over typed data, and its walk. -/
import Derived.Test.YtdkmamiedcanfaaGreatW0
import Derived.Test.YtdkmamiedcanfaaGreatW2
import Derived.Test.YtdkmamiedcanfaaGreatW4
namespace Go.Proofs.YtdkmamiedcanfaaGreat
open Go Go.Fw Go.Shelf
set_option maxRecDepth 100000
set_option maxHeartbeats 4000000
set_option linter.unusedSimpArgs false
set_option linter.unusedVariables false
def F30_l1(x0:Cache):Nat→Int→Option ((Bool) ⊕ (Unit))
 |0,_=>none
 |k+1,o1_0=>(if o1_0<(x0.Aa.length:Int)then(rdI x0.Aa ((IntKind.i64.wrap (o1_0-1)))).bind fun y3=>(F39 y3.Meta).bind fun t4=>(rdI x0.Aa o1_0).bind fun y5=>(F39 y5.Meta).bind fun t6=>(if(nb (Op.bytesLess t4.toList t6.toList))=true then(some false).map Sum.inl else F30_l1 x0 k ((IntKind.i64.wrap (o1_0+1))))else some (Sum.inr (())))
def F30(x0:Cache):Option (Bool):=((F30_l1 x0 1099511627776 1:Option ((Bool) ⊕ (Unit))).bind fun o1=>match o1 with|Sum.inl f=>some f|Sum.inr po1=>some true)
def a30:AFn:=⟨27,[(.tmp 2)],
 (.seq (.reg [Qg 1 0,
Qf 2 false])
 (.seq (.seq (.reg [Qe 3 1])
 (.sem (.block 0 (.loop (.seq (.seq (.reg [Qa 4 3,
Qb 5 5 1,
Qd 6 5,
Qh 7 6,
Qn 8 4 7])
 (.cond (.t 8)
 .skip
 (.exit 0)))
 (.seq (.block 1 (.seq (.regd [Qb 11 5 1,
sd 12 (.load none (.t 11)) [0],
Qa 13 3,
sd 14 (.bin .sub (.t 13) (kI 1)) [2],
sd 15 (.indexA 23 (.t 12) (.t 14)) [0,1,2,3],
sd 16 (.fieldA 0 (.t 15)) [0,1,2,3,4],
sd 17 (.load (some 13) (.t 16)) [0,1,2,3,4,5],
zn 18 (.call 39 [(.t 17)]) [0,1,2,3,4,5,6] [0,1,2,3,4,5,6],
Qb 19 5 1,
sd 20 (.load none (.t 19)) [8],
Qa 21 3,
sd 22 (.indexA 23 (.t 20) (.t 21)) [8,9,10],
sd 23 (.fieldA 0 (.t 22)) [8,9,10,11],
sd 24 (.load (some 13) (.t 23)) [8,9,10,11,12],
zl 25 (.call 39 [(.t 24)]) [0,1,2,3,4,5,6,7,8,9,10,11,12,13] [],
sd 26 (.bin .geq (.t 18) (.t 25)) [0,1,2,3,4,5,6,7,8,9,10,11,12,13,14]])
 (.cond (.t 26)
 (.seq (.reg [Qf 2 false])
 .ret)
 .skip)))
 (.reg [Qa 9 3,
Qm 10 9 1,
Qa 3 10])))))))
 (.seq (.reg [Qf 2 true])
 .ret)))⟩
theorem F30_ok{x0 r}(h:F30 x0=some r):An Tryz.prog 30 [.agg (Ch x0)] [] (AL [.c (dB r)]) []:=by
 rw[F30]at h
 refine zc a30 (by kernel_rfl) rfl (ww ?_)
 obtain⟨o1,ho,h⟩:=bi h
 refine AB (fun s=>∃po1,o1=Sum.inr po1∧s=⟨[],[]⟩) ?_ ?_
 ·have h0o1:=h
  have h:=ho
  clear ho
  refine ww ?_
  refine bL (fun j s=>∃(o1_0:Int),s=⟨[(1,Pz 0),(3,oc (dI o1_0))],[xb (Ch x0)]⟩∧F30_l1 x0 j o1_0=some o1) 1099511627776 [some 0] ⟨1,rfl,h⟩ ?_
  rintro j _ ⟨o1_0,rfl,h⟩
  cases j with
  |zero=>cases(show(none:Option _)=some _ from h)
  |succ j=>
   rw[F30_l1]at h
   refine ww ?_
   refine AH h (fun c2 h=>ww ?_) (fun c2 h=>?_)
   ·obtain⟨y3,hy3,h⟩:=bi h
    refine Az (enc:=Ad) (xs:=x0.Aa) rfl rfl hy3 rfl (ww ?_)
    obtain⟨t4,ht4,h⟩:=bi h
    refine cN [] (F39_ok ht4) trivial (ww ?_)
    obtain⟨y5,hy5,h⟩:=bi h
    refine Az (enc:=Ad) (xs:=x0.Aa) rfl rfl hy5 rfl (ww ?_)
    obtain⟨t6,ht6,h⟩:=bi h
    refine cN [] (F39_ok ht6) trivial (ww ?_)
    refine AE h (fun c7 h=>ww ?_) (fun c7 h=>?_)
    ·obtain⟨fh0o1,hfh0o1,rfl⟩:=Option.map_eq_some_iff.1 h
     have h:=hfh0o1.trans h0o1
     cases h
     exact eF []
    ·refine ww ?_
     exact eL' j [some 0] ⟨(IntKind.i64.wrap (o1_0+1)),rfl,h⟩ (Nat.lt_succ_self _)
   ·refine ww ?_
    cases h
    exact eM [] ⟨_,rfl,rfl⟩
 rintro _ ⟨po1,rfl,rfl⟩
 clear ho
 dsimp only at h
 refine ww ?_
 cases h
 exact eF []
def F8_l1(x0:Cache):Nat→Int→Int→Option (Int)
 |0,_,_=>none
 |k+1,o1_0,o1_1=>(((if o1_1<(x0.Aa.length:Int)then some (decide (o1_1≤40))else some false)).bind fun o2=>(if o2=true then(rdI x0.Aa o1_1).bind fun y5=>(F29 y5).bind fun t6=>F8_l1 x0 k ((IntKind.i64.wrap (o1_0+t6))) ((IntKind.i64.wrap (o1_1+1)))else some o1_0))
def F8(x0:Cache):Option (Bool):=((F8_l1 x0 1099511627776 0 0).bind fun o1=>(((if(x0.Aa.length:Int)≤40 then(if o1≤1500 then(F23 x0.Filter).bind fun t10=>(if t10=true then(F30 x0).bind fun t12=>some t12 else some false)else some false)else some false)).bind fun o7=>some o7))
def a8:AFn:=⟨41,[(.tmp 2)],
 (.seq (.reg [Qg 1 0,
Qf 2 false])
 (.seq (.reg [Qe 3 0])
 (.seq (.seq (.reg [Qe 4 0])
 (.sem (.block 0 (.loop (.seq (.seq (.sem (.reg [Qa 5 4,
Qb 6 5 1,
Qd 7 6,
Qh 8 7,
Qn 9 5 8,
Qa 10 9,
Qv 11 10 true 4,
zg 12 10 true (.bin .leq (.t 11) (kI 40)),
zl 13 (.pick (.t 10) (.t 12) (kB false)) [] [1,6,7]]))
 (.cond (.t 13)
 .skip
 (.exit 0)))
 (.seq (.block 1 (.reg [Qa 16 3,
Qb 17 5 1,
Qd 18 17,
Qa 19 4,
Qp 20 23 18 19,
Qc 21 23 20,
Qk 22 29 21,
sq 23 (.bin .add (.t 16) (.t 22)),
Qa 3 23]))
 (.reg [Qa 14 4,
Qm 15 14 1,
Qa 4 15])))))))
 (.seq (.sem (.reg [Qb 24 5 1,
Qd 25 24,
Qh 26 25,
sq 27 (.bin .leq (.t 26) (kI 40)),
Qa 28 27,
Qv 29 28 true 3,
zg 30 28 true (.bin .leq (.t 29) (kI 1500)),
Qi 31 28 30,
Qa 32 31,
Qs 33 32 true 0 1,
Qu 34 32 true 3 33,
zg 35 32 true (.call 23 [(.t 34)]),
Qi 36 32 35,
Qa 37 36,
Qu 38 37 true 6 1,
zg 39 37 true (.call 30 [(.t 38)]),
Qi 40 37 39,
Qa 2 40]))
 .ret))))⟩
theorem F8_ok{x0 r}(h:F8 x0=some r):An Tryz.prog 8 [.agg (Ch x0)] [] (AL [.c (dB r)]) []:=by
 rw[F8]at h
 refine zc a8 (by kernel_rfl) rfl (ww ?_)
 obtain⟨o1,ho,h⟩:=bi h
 refine AB (fun s=>s=⟨[(1,Pz 0),(3,oc (dI o1))],[xb (Ch x0)]⟩) ?_ ?_
 ·have h:=ho
  clear ho
  refine ww ?_
  refine bL (fun j s=>∃(o1_0:Int) (o1_1:Int),s=⟨[(1,Pz 0),(3,oc (dI o1_0)),(4,oc (dI o1_1))],[xb (Ch x0)]⟩∧F8_l1 x0 j o1_0 o1_1=some o1) 1099511627776 [some 0] ⟨0,0,rfl,h⟩ ?_
  rintro j _ ⟨o1_0,o1_1,rfl,h⟩
  cases j with
  |zero=>cases(show(none:Option _)=some _ from h)
  |succ j=>
   rw[F8_l1]at h
   refine ww ?_
   obtain⟨o2,ho,h⟩:=bi h
   refine AB (fun s=>s=⟨[(1,Pz 0),(3,oc (dI o1_0)),(4,oc (dI o1_1)),(13,oc (dB o2))],[xb (Ch x0)]⟩) ?_ ?_
   ·have h:=ho
    clear ho
    refine ww ?_
    refine Af h (fun g3 h=>ww ?_) (fun g3 h=>?_)
    ·cases h
     exact eM [some 0] rfl
    ·refine ww ?_
     cases h
     exact eM [some 0] rfl
   ·rintro _ rfl
    clear ho
    refine ww ?_
    refine AE h (fun c4 h=>ww ?_) (fun c4 h=>?_)
    ·obtain⟨y5,hy5,h⟩:=bi h
     refine Az (enc:=Ad) (xs:=x0.Aa) rfl rfl hy5 rfl (ww ?_)
     obtain⟨t6,ht6,h⟩:=bi h
     refine cN [] (F29_ok ht6) trivial (ww ?_)
     exact eL' j [some 0] ⟨(IntKind.i64.wrap (o1_0+t6)),(IntKind.i64.wrap (o1_1+1)),rfl,h⟩ (Nat.lt_succ_self _)
    ·refine ww ?_
     cases h
     exact eM [some 0] rfl
 rintro _ rfl
 clear ho
 refine ww ?_
 obtain⟨o7,ho,h⟩:=bi h
 refine AB (fun s=>s=⟨[(2,oc (dB o7))],[]⟩) ?_ ?_
 ·have h:=ho
  clear ho
  refine ww ?_
  refine Af h (fun g8 h=>ww ?_) (fun g8 h=>ww ?_)
  ·refine Af h (fun g9 h=>ww ?_) (fun g9 h=>ww ?_)
   ·obtain⟨t10,ht10,h⟩:=bi h
    refine cN [] (F23_ok ht10) trivial (ww ?_)
    refine AM h (fun g11 h=>ww ?_) (fun g11 h=>ww ?_)
    ·obtain⟨t12,ht12,h⟩:=bi h
     refine cN [] (F30_ok ht12) trivial (ww ?_)
     cases h
     exact eM [] rfl
    cases h
    exact eM [] rfl
   cases h
   exact eM [] rfl
  cases h
  exact eM [] rfl
 rintro _ rfl
 clear ho
 refine ww ?_
 cases h
 exact eF []
end Go.Proofs.YtdkmamiedcanfaaGreat
