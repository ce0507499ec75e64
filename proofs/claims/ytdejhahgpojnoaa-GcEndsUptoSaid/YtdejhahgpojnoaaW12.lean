/- Each Go function as a function over typed data, and its walk. -/
import Derived.Test.YtdejhahgpojnoaaW0
import Derived.Test.YtdejhahgpojnoaaW1
import Derived.Test.YtdejhahgpojnoaaW4
import Derived.Test.YtdejhahgpojnoaaW8
import Derived.Test.YtdejhahgpojnoaaW9
import Derived.Test.YtdejhahgpojnoaaW10
import Derived.Test.YtdejhahgpojnoaaW11
namespace Go.Proofs.Ytdejhahgpojnoaa
open Go Go.Fw Go.Shelf
set_option maxRecDepth 100000
set_option maxHeartbeats 4000000
set_option linter.unusedSimpArgs false
set_option linter.unusedVariables false
def F42_l1(x1:Int):Nat→(List GcAction)→Int→Int→Option ((List GcAction)×Int)
 |0,_,_,_=>none
 |k+1,o1_0,o1_1,o1_2=>(if o1_2≤x1 then(F56 o1_0 o1_1 o1_2).bind fun t3=>F42_l1 x1 k t3 o1_2 ((IntKind.i64.wrap (o1_2+20)))else some ((o1_0,o1_1)))
def F42_l7(o5_1:Int)(x1:Int):Nat→(List GcAction)→Int→Int→Option ((List GcAction)×Int)
 |0,_,_,_=>none
 |k+1,o7_0,o7_1,o7_2=>(if o7_2≤x1 then(F57k 1099511627776 o7_0 o7_1 ((IntKind.i64.wrap (o7_1+o5_1))) o7_2).bind fun t9=>F42_l7 o5_1 x1 k t9 o7_2 ((IntKind.i64.wrap (o7_2+((IntKind.i64.wrap (2*o5_1))))))else some ((o7_0,o7_1)))
def F42_l5(x1:Int):Nat→(List GcAction)→Int→Option ((List GcAction))
 |0,_,_=>none
 |k+1,o5_0,o5_1=>(if o5_1<x1 then((F42_l7 o5_1 x1 1099511627776 o5_0 0 ((IntKind.i64.wrap (2*o5_1)))).bind fun o7=>(((if(IntKind.i64.wrap (o7.2+o5_1))<x1 then(F57k 1099511627776 o7.1 o7.2 ((IntKind.i64.wrap (o7.2+o5_1))) x1).bind fun t12=>some t12 else some o7.1)).bind fun o10=>F42_l5 x1 k o10 ((IntKind.i64.wrap (o5_1*2)))))else some o5_0)
def F42i(x0:(List GcAction))(x1:Int):Option ((List GcAction)):=((F42_l1 x1 1099511627776 x0 0 20).bind fun o1=>(F56 o1.1 o1.2 x1).bind fun t4=>((F42_l5 x1 1099511627776 t4 20).bind fun o5=>some o5))
def F42(x0:(List GcAction))(x1:Int):Option ((List GcAction)):=(F42i x0 x1).bind fun r=>if r.length=x0.length then some r else none
theorem F42_len0{x0:(List GcAction)}{x1:Int}{r:(List GcAction)}(h:F42 x0 x1=some r):r.length=x0.length:=(guard_some h).2
def a42:AFn:=⟨63,[],
 (.seq (.reg [Qe 6 20])
 (.seq (.reg [Qa 10 6,
Qe 7 0,
Qa 8 10])
 (.seq (.sem (.block 0 (.loop (.seq (.seq (.reg [Qa 11 8,
Qa 12 1,
sq 13 (.bin .leq (.t 11) (.t 12))])
 (.cond (.t 13)
 .skip
 (.exit 0)))
 (.block 1 (.seq (.reg [Qa 14 0,
Qa 15 7,
Qa 16 8,
Qa 17 2,
zl 18 (.call 56 [(.t 14),(.t 15),(.t 16),(.t 17)]) [] []])
 (.seq (.reg [Qa 19 8,
Qa 7 19])
 (.reg [Qa 20 8,
Qa 21 6,
sq 22 (.bin .add (.t 20) (.t 21)),
Qa 8 22]))))))))
 (.seq (.reg [Qa 23 0,
Qa 24 7,
Qa 25 1,
Qa 26 2,
zl 27 (.call 56 [(.t 23),(.t 24),(.t 25),(.t 26)]) [] []])
 (.sem (.block 2 (.loop (.seq (.seq (.reg [Qa 28 6,
Qa 29 1,
Qn 30 28 29])
 (.cond (.t 30)
 .skip
 (.exit 2)))
 (.block 3 (.seq (.reg [Qa 31 6,
sq 32 (.bin .mul (kI 2) (.t 31)),
Qe 7 0,
Qa 8 32])
 (.seq (.sem (.block 4 (.loop (.seq (.seq (.reg [Qa 33 8,
Qa 34 1,
sq 35 (.bin .leq (.t 33) (.t 34))])
 (.cond (.t 35)
 .skip
 (.exit 4)))
 (.block 5 (.seq (.reg [Qa 36 0,
Qa 37 7,
Qa 38 7,
Qa 39 6,
sq 40 (.bin .add (.t 38) (.t 39)),
Qa 41 8,
Qa 42 2,
zl 43 (.call 57 [(.t 36),(.t 37),(.t 40),(.t 41),(.t 42)]) [] []])
 (.seq (.reg [Qa 44 8,
Qa 7 44])
 (.reg [Qa 45 8,
Qa 46 6,
sq 47 (.bin .mul (kI 2) (.t 46)),
sq 48 (.bin .add (.t 45) (.t 47)),
Qa 8 48]))))))))
 (.seq (.sem (.seq (.reg [Qa 49 7,
Qa 50 6,
sq 51 (.bin .add (.t 49) (.t 50)),
Qa 9 51])
 (.seq (.reg [Qa 52 9,
Qa 53 1,
Qn 54 52 53])
 (.cond (.t 54)
 (.reg [Qa 55 0,
Qa 56 7,
Qa 57 9,
Qa 58 1,
Qa 59 2,
zl 60 (.call 57 [(.t 55),(.t 56),(.t 57),(.t 58),(.t 59)]) [] []])
 .skip))))
 (.reg [Qa 61 6,
sq 62 (.bin .mul (.t 61) (kI 2)),
Qa 6 62])))))))))))))⟩
theorem F42_ok{x0 x1 r}{e0:Nat}(h:F42 x0 x1=some r):CallD Try.prog 42 [.c (.own 0 e0 0 (x0.length) none),.c (dI x1),.c (.fn 22 [])] [some (.arr e0 5 (x0.map eGcAction))] (tupV []) [some (.arr e0 5 (r.map eGcAction))]:=by
 replace h:=(guard_some h).1
 rw[F42i]at h
 refine zc a42 (by kernel_rfl) rfl (ww ?_)
 obtain⟨o1,ho,h⟩:=bi h
 refine cutS (fun s=>s=⟨[(0,oc (.own 0 e0 0 (o1.1.length) none)),(1,oc (dI x1)),(2,oc (.fn 22 [])),(6,oc (dI 20)),(7,oc (dI o1.2))],[some (.arr e0 5 (o1.1.map eGcAction))]⟩) ?_ ?_
 ·have h:=ho
  clear ho
  refine ww ?_
  refine bL (fun j s=>∃(o1_0:List GcAction) (o1_1:Int) (o1_2:Int),s=⟨[(0,oc (.own 0 e0 0 (o1_0.length) none)),(1,oc (dI x1)),(2,oc (.fn 22 [])),(6,oc (dI 20)),(7,oc (dI o1_1)),(8,oc (dI o1_2))],[some (.arr e0 5 (o1_0.map eGcAction))]⟩∧F42_l1 x1 j o1_0 o1_1 o1_2=some o1) 1099511627776 [some 0] ⟨x0,0,20,rfl,h⟩ ?_
  rintro j _ ⟨o1_0,o1_1,o1_2,rfl,h⟩
  cases j with
  |zero=>cases(show(none:Option _)=some _ from h)
  |succ j=>
   rw[F42_l1]at h
   refine ww ?_
   refine condSh h (fun c2 h=>ww ?_) (fun c2 h=>?_)
   ·obtain⟨t3,ht3,h⟩:=bi h
    refine cN [0] (F56_ok (e0:=e0) ht3) ⟨⟨rfl,trivial⟩,trivial⟩ ?_
    refine ww ?_
    exact eL' j [some 0] ⟨t3,o1_2,(IntKind.i64.wrap (o1_2+20)),rfl,h⟩ (Nat.lt_succ_self _) (hB:=by simp only[ZZ.down,Nat.reduceEqDiff,reduceCtorEq,Nat.reduceAdd,Nat.reduceLeDiff,Nat.reduceLT,Nat.reduceBNe,EE.down,F56_len0 ht3]) (hs:=by simp only[ZZ.down,Nat.reduceEqDiff,reduceCtorEq,Nat.reduceAdd,Nat.reduceLeDiff,Nat.reduceLT,Nat.reduceBNe,EE.down,F56_len0 ht3])
   ·refine ww ?_
    cases h
    exact eM [some 0] rfl
 rintro _ rfl
 clear ho
 refine ww ?_
 obtain⟨t4,ht4,h⟩:=bi h
 refine cN [0] (F56_ok (e0:=e0) ht4) ⟨⟨rfl,trivial⟩,trivial⟩ ?_
 refine ww ?_
 obtain⟨o5,ho,h⟩:=bi h
 refine cutS (fun s=>s=⟨[],[some (.arr e0 5 (o5.map eGcAction))]⟩) ?_ ?_
 ·have h:=ho
  clear ho
  refine ww ?_
  refine bL (fun j s=>∃(o5_0:List GcAction) (o5_1:Int),s=⟨[(0,oc (.own 0 e0 0 (o5_0.length) none)),(1,oc (dI x1)),(2,oc (.fn 22 [])),(6,oc (dI o5_1))],[some (.arr e0 5 (o5_0.map eGcAction))]⟩∧F42_l5 x1 j o5_0 o5_1=some o5) 1099511627776 [some 0] ⟨t4,20,rfl,h⟩ ?_ (hB:=by simp only[ZZ.down,Nat.reduceEqDiff,reduceCtorEq,Nat.reduceAdd,Nat.reduceLeDiff,Nat.reduceLT,Nat.reduceBNe,EE.down,F56_len0 ht4]) (hs:=by simp only[ZZ.down,Nat.reduceEqDiff,reduceCtorEq,Nat.reduceAdd,Nat.reduceLeDiff,Nat.reduceLT,Nat.reduceBNe,EE.down,F56_len0 ht4])
  rintro j _ ⟨o5_0,o5_1,rfl,h⟩
  cases j with
  |zero=>cases(show(none:Option _)=some _ from h)
  |succ j=>
   rw[F42_l5]at h
   refine ww ?_
   refine condSh h (fun c6 h=>ww ?_) (fun c6 h=>?_)
   ·obtain⟨o7,ho,h⟩:=bi h
    refine cutS (fun s=>s=⟨[(0,oc (.own 0 e0 0 (o7.1.length) none)),(1,oc (dI x1)),(2,oc (.fn 22 [])),(6,oc (dI o5_1)),(7,oc (dI o7.2))],[some (.arr e0 5 (o7.1.map eGcAction))]⟩) ?_ ?_
    ·have h:=ho
     clear ho
     refine ww ?_
     refine bL (fun j s=>∃(o7_0:List GcAction) (o7_1:Int) (o7_2:Int),s=⟨[(0,oc (.own 0 e0 0 (o7_0.length) none)),(1,oc (dI x1)),(2,oc (.fn 22 [])),(6,oc (dI o5_1)),(7,oc (dI o7_1)),(8,oc (dI o7_2))],[some (.arr e0 5 (o7_0.map eGcAction))]⟩∧F42_l7 o5_1 x1 j o7_0 o7_1 o7_2=some o7) 1099511627776 [some 0] ⟨o5_0,0,(IntKind.i64.wrap (2*o5_1)),rfl,h⟩ ?_ (hB:=by simp only[ZZ.down,Nat.reduceEqDiff,reduceCtorEq,Nat.reduceAdd,Nat.reduceLeDiff,Nat.reduceLT,Nat.reduceBNe,EE.down,F56_len0 ht4]) (hs:=by simp only[ZZ.down,Nat.reduceEqDiff,reduceCtorEq,Nat.reduceAdd,Nat.reduceLeDiff,Nat.reduceLT,Nat.reduceBNe,EE.down,F56_len0 ht4])
     rintro j _ ⟨o7_0,o7_1,o7_2,rfl,h⟩
     cases j with
     |zero=>cases(show(none:Option _)=some _ from h)
     |succ j=>
      rw[F42_l7]at h
      refine ww ?_
      refine condSh h (fun c8 h=>ww ?_) (fun c8 h=>?_)
      ·obtain⟨t9,ht9,h⟩:=bi h
       refine callX_n [0] (F57k_ok 1099511627776 (e0:=e0) ht9) ?_ ?_ ?_ ?_ ?_ ?_
       ·first|rfl|simp[nrmA,nrmC,nrm,A1.ren,C.ren,rn,List.length_set,F56_len0 ht4]
       ·simp[liveAll,A1.live,C.live,hp]
       ·rfl
       ·decide
       ·exact⟨⟨rfl,trivial⟩,trivial⟩
       refine ww ?_
       exact eL' j [some 0] ⟨t9,o7_2,(IntKind.i64.wrap (o7_2+((IntKind.i64.wrap (2*o5_1))))),rfl,h⟩ (Nat.lt_succ_self _) (hB:=by simp only[ZZ.down,Nat.reduceEqDiff,reduceCtorEq,Nat.reduceAdd,Nat.reduceLeDiff,Nat.reduceLT,Nat.reduceBNe,EE.down,F56_len0 ht4,F57k_len0 ht9]) (hs:=by simp only[ZZ.down,Nat.reduceEqDiff,reduceCtorEq,Nat.reduceAdd,Nat.reduceLeDiff,Nat.reduceLT,Nat.reduceBNe,EE.down,F56_len0 ht4,F57k_len0 ht9])
      ·refine ww ?_
       cases h
       exact eM [some 0] rfl (hB:=by simp only[ZZ.down,Nat.reduceEqDiff,reduceCtorEq,Nat.reduceAdd,Nat.reduceLeDiff,Nat.reduceLT,Nat.reduceBNe,EE.down,F56_len0 ht4]) (hs:=by simp only[ZZ.down,Nat.reduceEqDiff,reduceCtorEq,Nat.reduceAdd,Nat.reduceLeDiff,Nat.reduceLT,Nat.reduceBNe,EE.down,F56_len0 ht4])
    ·rintro _ rfl
     clear ho
     refine ww ?_
     obtain⟨o10,ho,h⟩:=bi h
     refine cutS (fun s=>s=⟨[(0,oc (.own 0 e0 0 (o10.length) none)),(1,oc (dI x1)),(2,oc (.fn 22 [])),(6,oc (dI o5_1))],[some (.arr e0 5 (o10.map eGcAction))]⟩) ?_ ?_
     ·have h:=ho
      clear ho
      refine ww ?_
      refine condSh h (fun c11 h=>ww ?_) (fun c11 h=>?_)
      ·obtain⟨t12,ht12,h⟩:=bi h
       refine callX_n [0] (F57k_ok 1099511627776 (e0:=e0) ht12) ?_ ?_ ?_ ?_ ?_ ?_
       ·first|rfl|simp[nrmA,nrmC,nrm,A1.ren,C.ren,rn,List.length_set,F56_len0 ht4]
       ·simp[liveAll,A1.live,C.live,hp]
       ·rfl
       ·decide
       ·exact⟨⟨rfl,trivial⟩,trivial⟩
       refine ww ?_
       cases h
       exact eM [some 0] rfl (hB:=by simp only[ZZ.down,Nat.reduceEqDiff,reduceCtorEq,Nat.reduceAdd,Nat.reduceLeDiff,Nat.reduceLT,Nat.reduceBNe,EE.down,F56_len0 ht4,F57k_len0 ht12]) (hs:=by simp only[ZZ.down,Nat.reduceEqDiff,reduceCtorEq,Nat.reduceAdd,Nat.reduceLeDiff,Nat.reduceLT,Nat.reduceBNe,EE.down,F56_len0 ht4,F57k_len0 ht12])
      ·refine ww ?_
       cases h
       exact eM [some 0] rfl (hB:=by simp only[ZZ.down,Nat.reduceEqDiff,reduceCtorEq,Nat.reduceAdd,Nat.reduceLeDiff,Nat.reduceLT,Nat.reduceBNe,EE.down,F56_len0 ht4]) (hs:=by simp only[ZZ.down,Nat.reduceEqDiff,reduceCtorEq,Nat.reduceAdd,Nat.reduceLeDiff,Nat.reduceLT,Nat.reduceBNe,EE.down,F56_len0 ht4])
     ·rintro _ rfl
      clear ho
      refine ww ?_
      exact eL' j [some 0] ⟨o10,(IntKind.i64.wrap (o5_1*2)),rfl,h⟩ (Nat.lt_succ_self _) (hB:=by simp only[ZZ.down,Nat.reduceEqDiff,reduceCtorEq,Nat.reduceAdd,Nat.reduceLeDiff,Nat.reduceLT,Nat.reduceBNe,EE.down,F56_len0 ht4]) (hs:=by simp only[ZZ.down,Nat.reduceEqDiff,reduceCtorEq,Nat.reduceAdd,Nat.reduceLeDiff,Nat.reduceLT,Nat.reduceBNe,EE.down,F56_len0 ht4])
   ·refine ww ?_
    cases h
    exact eM [some 0] rfl (hB:=by simp only[ZZ.down,Nat.reduceEqDiff,reduceCtorEq,Nat.reduceAdd,Nat.reduceLeDiff,Nat.reduceLT,Nat.reduceBNe,EE.down,F56_len0 ht4]) (hs:=by simp only[ZZ.down,Nat.reduceEqDiff,reduceCtorEq,Nat.reduceAdd,Nat.reduceLeDiff,Nat.reduceLT,Nat.reduceBNe,EE.down,F56_len0 ht4])
 rintro _ rfl
 clear ho
 refine ww ?_
 cases h
 exact eF [some 0] (hB:=by simp only[ZZ.down,Nat.reduceEqDiff,reduceCtorEq,Nat.reduceAdd,Nat.reduceLeDiff,Nat.reduceLT,Nat.reduceBNe,EE.down,F56_len0 ht4]) (hs:=by simp only[ZZ.down,Nat.reduceEqDiff,reduceCtorEq,Nat.reduceAdd,Nat.reduceLeDiff,Nat.reduceLT,Nat.reduceBNe,EE.down,F56_len0 ht4])
def F21i(x0:(List GcAction)):Option ((List GcAction)):=(F42 x0 ((x0.length:Int))).bind fun t1=>some t1
def F21(x0:(List GcAction)):Option ((List GcAction)):=(F21i x0).bind fun r=>if r.length=x0.length then some r else none
theorem F21_len0{x0:(List GcAction)}{r:(List GcAction)}(h:F21 x0=some r):r.length=x0.length:=(guard_some h).2
def a21:AFn:=⟨9,[],
 (.reg [Qa 4 0,
Qa 5 0,
Qh 6 5,
Qa 7 1,
zl 8 (.call 42 [(.t 4),(.t 6),(.t 7)]) [] [5]])⟩
theorem F21_ok{x0 r}{e0:Nat}(h:F21 x0=some r):CallD Try.prog 21 [.c (.own 0 e0 0 (x0.length) none),.c (.fn 22 [])] [some (.arr e0 5 (x0.map eGcAction))] (tupV []) [some (.arr e0 5 (r.map eGcAction))]:=by
 replace h:=(guard_some h).1
 rw[F21i]at h
 refine zc a21 (by kernel_rfl) rfl (ww ?_)
 obtain⟨t1,ht1,h⟩:=bi h
 refine cN [0] (F42_ok (e0:=e0) ht1) ⟨⟨rfl,trivial⟩,trivial⟩ ?_
 refine ww ?_
 cases h
 exact eF [some 0] (hB:=by simp only[ZZ.down,Nat.reduceEqDiff,reduceCtorEq,Nat.reduceAdd,Nat.reduceLeDiff,Nat.reduceLT,Nat.reduceBNe,EE.down,F42_len0 ht1]) (hs:=by simp only[ZZ.down,Nat.reduceEqDiff,reduceCtorEq,Nat.reduceAdd,Nat.reduceLeDiff,Nat.reduceLT,Nat.reduceBNe,EE.down,F42_len0 ht1])
def F10_l2(t1:(List (Int×TState))):List Object→Nat→(List GcAction)→Option ((List GcAction))
 |[],o2_1,o2_0=>some o2_0
 |xo2::xs,o2_1,o2_0=>(((F20 xo2 t1).bind fun t5=>(if t5.2=true then(apI o2_0 ([(⟨(t5.1).Kind,(t5.1).Key,(t5.1).Uid,(t5.1).Owner,(t5.1).Name⟩:GcAction)])).bind fun a7=>some a7 else some o2_0)).bind fun o4=>F10_l2 t1 xs (o2_1+1) o4)
def F10(x0:(List Object)):Option ((List GcAction)):=(F19 x0).bind fun t1=>(((ck (0≤x0.length∧x0.length≤4294967290)).bind fun u8=>F10_l2 t1 x0 0 ([])).bind fun o2=>(F21 o2).bind fun t9=>some t9)
def a10:AFn:=⟨32,[(.tmp 2)],
 (.seq (.reg [sq 2 (.mv kN)])
 (.seq (.reg [Qa 9 0,
Qk 10 19 9,
Qa 3 10])
 (.seq (.reg [sq 4 (.mv kN)])
 (.seq (.seq (.reg [Qa 11 0,
Qh 12 11,
Qe 13 0])
 (.sem (.block 0 (.loop (.seq (.reg [Qn 14 13 12])
 (.seq (.cond (.t 14)
 .skip
 (.exit 0))
 (.seq (.sem (.block 1 (.seq (.reg [Qp 15 23 11 13,
Qc 16 23 15,
sq 6 (.zbox [dS ⟨#[]⟩,dS ⟨#[]⟩,dS ⟨#[]⟩,dI 0,dI 0,dI 0,dI 0,dB false,dI 0,dN,dN,dN,dN,dI 0,dI 0,dS ⟨#[]⟩,dN,dN,dI 0,dI 0,dS ⟨#[]⟩,dN,dN]),
su (.store 23 (.t 6) (.t 16))])
 (.seq (.reg [Qc 18 23 6,
Qa 19 3,
Ql 20 20 18 19,
Qa 17 20,
Qo 21 17 0,
Qo 22 17 1,
sq 7 (.zbox [dI 0,dS ⟨#[]⟩,dI 0,dI 0,dS ⟨#[]⟩]),
su (.store 5 (.t 7) (.t 21)),
Qa 8 22])
 (.seq (.reg [Qa 23 8])
 (.cond (.t 23)
 (.reg [Qa 24 4,
Qc 25 5 7,
sq 26 (.bslice 5 [(.t 25)]),
sq 27 (.app 5 56 (.t 24) (.t 26)),
Qa 4 27])
 .skip))))))
 (.reg [Qm 28 13 1,
Qa 13 28]))))))))
 (.seq (.reg [Qa 29 4,
zl 30 (.call 21 [(.t 29),(.f 22)]) [] []])
 (.seq (.reg [Qa 31 4,
Qa 2 31])
 .ret))))))⟩
theorem F10_ok{x0 r}(h:F10 x0=some r):CallD Try.prog 10 [.c (dM (x0.map eObject))] [] (tupV [.c (.own 0 0 0 (r.length) none)]) [some (.arr 0 5 (r.map eGcAction))]:=by
 rw[F10]at h
 refine zc a10 (by kernel_rfl) rfl (ww ?_)
 obtain⟨t1,ht1,h⟩:=bi h
 refine cN [] (F19_ok ht1) trivial (ww ?_)
 obtain⟨o2,ho,h⟩:=bi h
 refine cutS (fun s=>s=⟨[(4,oc (.own 0 0 0 (o2.length) none))],[some (.arr 0 5 (o2.map eGcAction))]⟩) ?_ ?_
 ·have h:=ho
  clear ho
  obtain⟨_,hk,h⟩:=bi h
  have hk:=ck_some hk
  refine ww ?_
  refine bL (fun j s=>∃(o2_1:Nat) (o2_0:List GcAction),(o2_1≤x0.length∧j=x0.length-o2_1)∧s=⟨[(3,oc (.mref 0)),(4,oc (.own 1 0 0 (o2_0.length) none)),(11,oc (dM (x0.map eObject))),(12,oc (dI ((x0.length:Int)))),(13,oc (dI ((o2_1:Int))))],[some (.map (eMs (Value.int .i64) eTState t1)),some (.arr 0 5 (o2_0.map eGcAction))]⟩∧F10_l2 t1 (x0.drop o2_1) o2_1 o2_0=some o2) (x0.length-0) [some 0,none] ⟨0,[],⟨hk.1,rfl⟩,rfl,h⟩ ?_
  rintro _ _ ⟨o2_1,o2_0,⟨hi,rfl⟩,rfl,h⟩
  refine ww ?_
  refine condS (fun c3=>?_) (fun c3=>?_)
  ·obtain⟨xo2,hxo2,hd⟩:=countY (show(o2_1:Int)<(x0.length:Int)from c3)
   rw[hd,F10_l2]at h
   refine ww ?_
   obtain⟨o4,ho,h⟩:=bi h
   refine cutS (fun s=>s=⟨[(3,oc (.mref 0)),(4,oc (.own 1 0 0 (o4.length) none)),(11,oc (dM (x0.map eObject))),(12,oc (dI ((x0.length:Int)))),(13,oc (dI ((o2_1:Int))))],[some (.map (eMs (Value.int .i64) eTState t1)),some (.arr 0 5 (o4.map eGcAction))]⟩) ?_ ?_
   ·have h:=ho
    clear ho
    refine ww ?_
    refine t_idxF (enc:=eObject) (xs:=x0) rfl rfl hxo2 rfl (ww ?_)
    obtain⟨t5,ht5,h⟩:=bi h
    refine cN [0] (F20_ok ht5) ⟨⟨congrArg some (by first|exact ren_m1.symm|exact ren_ms.symm),(by first|exact entsD_live entsD_1 _|exact entsD_live entsD_s _)⟩,trivial⟩ ?_
    refine ww ?_
    refine condBh h (fun c6 h=>ww ?_) (fun c6 h=>ww ?_)
    ·refine t_bslice (enc:=eGcAction) (ys:=[(⟨(t5.1).Kind,(t5.1).Key,(t5.1).Uid,(t5.1).Owner,(t5.1).Name⟩:GcAction)]) rfl rfl (by simp[A1.cells]) (by first|rfl|(simp only[List.drop_zero,take_mapL];rfl)|(simp only[lit,List.map_cons,List.map_nil,List.drop_zero,take_mapL,EE.down];done)|(simp only[lit,List.map_cons,List.map_nil,List.drop_zero,take_mapL,EE.down];rfl)) (ww ?_)
     obtain⟨a7,ha7,h⟩:=bi h
     refine t_app (enc:=eGcAction) (xs:=o2_0) rfl rfl (by first|rfl|simp only[List.length_set]|exact(clrL_len (slI_len (by assumption))).symm) rfl (rows_full (enc:=eGcAction) (by first|rfl|simp only[List.length_set]|exact(clrL_len (slI_len (by assumption))).symm) rfl) ha7 (ww ?_)
     cases h
     exact eM [some 0,some 1] rfl
    cases h
    exact eM [some 0,some 1] rfl
   rintro _ rfl
   clear ho
   refine ww ?_
   rw[wrapN (by omega)]
   exact eL' (x0.length-(o2_1+1)) [some 0,some 1] ⟨o2_1+1,o4,⟨by omega,rfl⟩,rfl,h⟩ (by omega)
  rw[countN (show¬((o2_1:Int)<(x0.length:Int))from c3),F10_l2]at h
  refine ww ?_
  cases h
  exact eM [some 1] rfl
 rintro _ rfl
 clear ho
 refine ww ?_
 obtain⟨t9,ht9,h⟩:=bi h
 refine cN [0] (F21_ok (e0:=0) ht9) ⟨⟨rfl,trivial⟩,trivial⟩ ?_
 refine ww ?_
 cases h
 exact eF [some 0] (hB:=by simp only[ZZ.down,Nat.reduceEqDiff,reduceCtorEq,Nat.reduceAdd,Nat.reduceLeDiff,Nat.reduceLT,Nat.reduceBNe,EE.down,F21_len0 ht9]) (hs:=by simp only[ZZ.down,Nat.reduceEqDiff,reduceCtorEq,Nat.reduceAdd,Nat.reduceLeDiff,Nat.reduceLT,Nat.reduceBNe,EE.down,F21_len0 ht9])
def F8:Option (Bool):=((some (())).bind fun o1=>(F18 ((⟨#[98]⟩:ByteArray)) 2 ([(⟨(⟨#[]⟩:ByteArray),(⟨#[]⟩:ByteArray),7,false,true⟩:Owner)])).bind fun t2=>(F18 ((⟨#[97]⟩:ByteArray)) 1 ([(⟨(⟨#[]⟩:ByteArray),(⟨#[]⟩:ByteArray),5,false,false⟩:Owner)])).bind fun t3=>(F18 ((⟨#[99]⟩:ByteArray)) 3 ([(⟨(⟨#[]⟩:ByteArray),(⟨#[]⟩:ByteArray),5,false,false⟩:Owner),(⟨(⟨#[]⟩:ByteArray),(⟨#[]⟩:ByteArray),1,false,false⟩:Owner)])).bind fun t4=>(F10 ((lit [(⟨(⟨(⟨#[80,111,100]⟩:ByteArray),(⟨#[]⟩:ByteArray),((⟨#[98]⟩:ByteArray)),(2:Int),0,0,0,false,0,[],([(⟨(⟨#[]⟩:ByteArray),(⟨#[]⟩:ByteArray),7,false,true⟩:Owner)]),[],[]⟩:Meta),(⟨0,0,(⟨#[]⟩:ByteArray),[],[]⟩:TValue),(⟨0,0,(⟨#[]⟩:ByteArray),[],[]⟩:TValue)⟩:Object),(⟨(⟨(⟨#[74,111,98]⟩:ByteArray),(⟨#[]⟩:ByteArray),(⟨#[106]⟩:ByteArray),7,0,0,0,true,0,[],[],[(⟨#[102,111,114,101,103,114,111,117,110,100,45,100,101,108,101,116,105,111,110]⟩:ByteArray)],[]⟩:Meta),(⟨0,0,(⟨#[]⟩:ByteArray),[],[]⟩:TValue),(⟨0,0,(⟨#[]⟩:ByteArray),[],[]⟩:TValue)⟩:Object),(⟨(⟨(⟨#[80,111,100]⟩:ByteArray),(⟨#[]⟩:ByteArray),((⟨#[97]⟩:ByteArray)),(1:Int),0,0,0,false,0,[],([(⟨(⟨#[]⟩:ByteArray),(⟨#[]⟩:ByteArray),5,false,false⟩:Owner)]),[],[]⟩:Meta),(⟨0,0,(⟨#[]⟩:ByteArray),[],[]⟩:TValue),(⟨0,0,(⟨#[]⟩:ByteArray),[],[]⟩:TValue)⟩:Object),(⟨(⟨(⟨#[80,111,100]⟩:ByteArray),(⟨#[]⟩:ByteArray),((⟨#[99]⟩:ByteArray)),(3:Int),0,0,0,false,0,[],([(⟨(⟨#[]⟩:ByteArray),(⟨#[]⟩:ByteArray),5,false,false⟩:Owner),(⟨(⟨#[]⟩:ByteArray),(⟨#[]⟩:ByteArray),1,false,false⟩:Owner)]),[],[]⟩:Meta),(⟨0,0,(⟨#[]⟩:ByteArray),[],[]⟩:TValue),(⟨0,0,(⟨#[]⟩:ByteArray),[],[]⟩:TValue)⟩:Object)]))).bind fun t5=>(F12 ((lit [(⟨(⟨(⟨#[80,111,100]⟩:ByteArray),(⟨#[]⟩:ByteArray),((⟨#[98]⟩:ByteArray)),(2:Int),0,0,0,false,0,[],([(⟨(⟨#[]⟩:ByteArray),(⟨#[]⟩:ByteArray),7,false,true⟩:Owner)]),[],[]⟩:Meta),(⟨0,0,(⟨#[]⟩:ByteArray),[],[]⟩:TValue),(⟨0,0,(⟨#[]⟩:ByteArray),[],[]⟩:TValue)⟩:Object),(⟨(⟨(⟨#[74,111,98]⟩:ByteArray),(⟨#[]⟩:ByteArray),(⟨#[106]⟩:ByteArray),7,0,0,0,true,0,[],[],[(⟨#[102,111,114,101,103,114,111,117,110,100,45,100,101,108,101,116,105,111,110]⟩:ByteArray)],[]⟩:Meta),(⟨0,0,(⟨#[]⟩:ByteArray),[],[]⟩:TValue),(⟨0,0,(⟨#[]⟩:ByteArray),[],[]⟩:TValue)⟩:Object),(⟨(⟨(⟨#[80,111,100]⟩:ByteArray),(⟨#[]⟩:ByteArray),((⟨#[97]⟩:ByteArray)),(1:Int),0,0,0,false,0,[],([(⟨(⟨#[]⟩:ByteArray),(⟨#[]⟩:ByteArray),5,false,false⟩:Owner)]),[],[]⟩:Meta),(⟨0,0,(⟨#[]⟩:ByteArray),[],[]⟩:TValue),(⟨0,0,(⟨#[]⟩:ByteArray),[],[]⟩:TValue)⟩:Object),(⟨(⟨(⟨#[80,111,100]⟩:ByteArray),(⟨#[]⟩:ByteArray),((⟨#[99]⟩:ByteArray)),(3:Int),0,0,0,false,0,[],([(⟨(⟨#[]⟩:ByteArray),(⟨#[]⟩:ByteArray),5,false,false⟩:Owner),(⟨(⟨#[]⟩:ByteArray),(⟨#[]⟩:ByteArray),1,false,false⟩:Owner)]),[],[]⟩:Meta),(⟨0,0,(⟨#[]⟩:ByteArray),[],[]⟩:TValue),(⟨0,0,(⟨#[]⟩:ByteArray),[],[]⟩:TValue)⟩:Object)])) 5).bind fun t6=>(F10 ([(⟨(⟨(⟨#[74,111,98]⟩:ByteArray),(⟨#[]⟩:ByteArray),(⟨#[106]⟩:ByteArray),7,0,0,0,true,0,[],[],[(⟨#[102,111,114,101,103,114,111,117,110,100,45,100,101,108,101,116,105,111,110]⟩:ByteArray)],[]⟩:Meta),(⟨0,0,(⟨#[]⟩:ByteArray),[],[]⟩:TValue),(⟨0,0,(⟨#[]⟩:ByteArray),[],[]⟩:TValue)⟩:Object)])).bind fun t7=>(((if¬((t5.length:Int)=3)then some true else(if¬((t6.length:Int)=2)then some true else some (decide (¬((t7.length:Int)=1)))))).bind fun o8=>(if o8=true then some false else(((rdI t5 0).bind fun y13=>(if y13.Kind=1∧y13.Key=(⟨#[80,111,100,47,47,97]⟩:ByteArray)∧y13.Uid=1∧y13.Owner=0∧y13.Name=(⟨#[]⟩:ByteArray)then(rdI t5 1).bind fun y15=>(if y15.Kind=4∧y15.Key=(⟨#[80,111,100,47,47,98]⟩:ByteArray)∧y15.Uid=2∧y15.Owner=0∧y15.Name=(⟨#[]⟩:ByteArray)then(rdI t5 2).bind fun y17=>(if y17.Kind=3∧y17.Key=(⟨#[80,111,100,47,47,99]⟩:ByteArray)∧y17.Uid=3∧y17.Owner=5∧y17.Name=(⟨#[]⟩:ByteArray)then(rdI t6 0).bind fun y19=>(if y19=(⟨#[80,111,100,47,47,97]⟩:ByteArray)then(rdI t7 0).bind fun y21=>(if y21.Kind=2∧y21.Key=(⟨#[74,111,98,47,47,106]⟩:ByteArray)∧y21.Uid=7∧y21.Owner=0∧y21.Name=(⟨#[102,111,114,101,103,114,111,117,110,100,45,100,101,108,101,116,105,111,110]⟩:ByteArray)then(F14 ((lit [(⟨(⟨(⟨#[80,111,100]⟩:ByteArray),(⟨#[]⟩:ByteArray),((⟨#[98]⟩:ByteArray)),(2:Int),0,0,0,false,0,[],([(⟨(⟨#[]⟩:ByteArray),(⟨#[]⟩:ByteArray),7,false,true⟩:Owner)]),[],[]⟩:Meta),(⟨0,0,(⟨#[]⟩:ByteArray),[],[]⟩:TValue),(⟨0,0,(⟨#[]⟩:ByteArray),[],[]⟩:TValue)⟩:Object),(⟨(⟨(⟨#[74,111,98]⟩:ByteArray),(⟨#[]⟩:ByteArray),(⟨#[106]⟩:ByteArray),7,0,0,0,true,0,[],[],[(⟨#[102,111,114,101,103,114,111,117,110,100,45,100,101,108,101,116,105,111,110]⟩:ByteArray)],[]⟩:Meta),(⟨0,0,(⟨#[]⟩:ByteArray),[],[]⟩:TValue),(⟨0,0,(⟨#[]⟩:ByteArray),[],[]⟩:TValue)⟩:Object),(⟨(⟨(⟨#[80,111,100]⟩:ByteArray),(⟨#[]⟩:ByteArray),((⟨#[97]⟩:ByteArray)),(1:Int),0,0,0,false,0,[],([(⟨(⟨#[]⟩:ByteArray),(⟨#[]⟩:ByteArray),5,false,false⟩:Owner)]),[],[]⟩:Meta),(⟨0,0,(⟨#[]⟩:ByteArray),[],[]⟩:TValue),(⟨0,0,(⟨#[]⟩:ByteArray),[],[]⟩:TValue)⟩:Object),(⟨(⟨(⟨#[80,111,100]⟩:ByteArray),(⟨#[]⟩:ByteArray),((⟨#[99]⟩:ByteArray)),(3:Int),0,0,0,false,0,[],([(⟨(⟨#[]⟩:ByteArray),(⟨#[]⟩:ByteArray),5,false,false⟩:Owner),(⟨(⟨#[]⟩:ByteArray),(⟨#[]⟩:ByteArray),1,false,false⟩:Owner)]),[],[]⟩:Meta),(⟨0,0,(⟨#[]⟩:ByteArray),[],[]⟩:TValue),(⟨0,0,(⟨#[]⟩:ByteArray),[],[]⟩:TValue)⟩:Object)]))).bind fun t23=>(if t23=true then(F18 ((⟨#[97]⟩:ByteArray)) 1 ([(⟨(⟨#[]⟩:ByteArray),(⟨#[]⟩:ByteArray),1,false,false⟩:Owner)])).bind fun t25=>(F14 ([(⟨(⟨(⟨#[80,111,100]⟩:ByteArray),(⟨#[]⟩:ByteArray),((⟨#[97]⟩:ByteArray)),(1:Int),0,0,0,false,0,[],([(⟨(⟨#[]⟩:ByteArray),(⟨#[]⟩:ByteArray),1,false,false⟩:Owner)]),[],[]⟩:Meta),(⟨0,0,(⟨#[]⟩:ByteArray),[],[]⟩:TValue),(⟨0,0,(⟨#[]⟩:ByteArray),[],[]⟩:TValue)⟩:Object)])).bind fun t26=>some (nb t26)else some false)else some false)else some false)else some false)else some false)else some false)).bind fun o12=>some o12))))
def a8:AFn:=⟨85,[(.tmp 0)],
 (.seq (.reg [Qf 0 false])
 (.seq (.sem (.reg [sq 6 (.bslice 1 [(kS ⟨#[102,111,114,101,103,114,111,117,110,100,45,100,101,108,101,116,105,111,110]⟩)]),
sq 7 (.build [dS ⟨#[]⟩,dS ⟨#[]⟩,dS ⟨#[]⟩,dI 0,dI 0,dI 0,dI 0,dB false,dI 0,dN,dN,dN,dN] [(0,1,(kS ⟨#[74,111,98]⟩)),(2,1,(kS ⟨#[106]⟩)),(3,1,(kI 7)),(7,1,(kB true)),(11,1,(.t 6))]),
sq 8 (.build [dS ⟨#[]⟩,dS ⟨#[]⟩,dS ⟨#[]⟩,dI 0,dI 0,dI 0,dI 0,dB false,dI 0,dN,dN,dN,dN,dI 0,dI 0,dS ⟨#[]⟩,dN,dN,dI 0,dI 0,dS ⟨#[]⟩,dN,dN] [(0,13,(.t 7))]),
sq 1 (.zbox [dS ⟨#[]⟩,dS ⟨#[]⟩,dS ⟨#[]⟩,dI 0,dI 0,dI 0,dI 0,dB false,dI 0,dN,dN,dN,dN,dI 0,dI 0,dS ⟨#[]⟩,dN,dN,dI 0,dI 0,dS ⟨#[]⟩,dN,dN]),
su (.store 23 (.t 1) (.t 8))]))
 (.seq (.regd [sq 9 (.build [dS ⟨#[]⟩,dS ⟨#[]⟩,dI 0,dB false,dB false] [(2,1,(kI 7)),(4,1,(kB true))]),
zn 10 (.bslice 5 [(.t 9)]) [0] [0],
zn 11 (.call 18 [(kS ⟨#[98]⟩),(kI 2),(.t 10)]) [0,1] [0,1],
Qc 12 23 1,
sq 13 (.build [dS ⟨#[]⟩,dS ⟨#[]⟩,dI 0,dB false,dB false] [(2,1,(kI 5))]),
zn 14 (.bslice 5 [(.t 13)]) [4] [4],
zn 15 (.call 18 [(kS ⟨#[97]⟩),(kI 1),(.t 14)]) [0,1,2,4,5] [0,1,2,4,5],
sq 16 (.build [dS ⟨#[]⟩,dS ⟨#[]⟩,dI 0,dB false,dB false] [(2,1,(kI 5))]),
sq 17 (.build [dS ⟨#[]⟩,dS ⟨#[]⟩,dI 0,dB false,dB false] [(2,1,(kI 1))]),
zn 18 (.bslice 5 [(.t 16),(.t 17)]) [7,8] [7,8],
zl 19 (.call 18 [(kS ⟨#[99]⟩),(kI 3),(.t 18)]) [0,1,2,4,5,6,7,8,9] [1],
zl 20 (.bslice 23 [(.t 11),(.t 12),(.t 15),(.t 19)]) [0,1,2,3,4,5,6,7,8,9,10] [],
sd 2 (.mv (.t 20)) [0,1,2,3,4,5,6,7,8,9,10,11]])
 (.seq (.reg [Qa 21 2,
Qk 22 10 21,
Qa 3 22])
 (.seq (.reg [Qa 23 2,
sq 24 (.call 12 [(.t 23),(kI 5)]),
Qa 4 24])
 (.seq (.reg [Qc 25 23 1,
sq 26 (.bslice 23 [(.t 25)]),
Qk 27 10 26,
Qa 5 27])
 (.seq (.seq (.sem (.reg [Qa 28 3,
Qh 29 28,
sq 30 (.bin .neq (.t 29) (kI 3)),
Qa 31 30,
Qv 32 31 false 4,
zg 33 31 false (.len (.t 32)),
zg 34 31 false (.bin .neq (.t 33) (kI 2)),
Qj 35 31 34,
Qa 36 35,
Qv 37 36 false 5,
zg 38 36 false (.len (.t 37)),
zg 39 36 false (.bin .neq (.t 38) (kI 1)),
Qj 40 36 39]))
 (.cond (.t 40)
 (.seq (.reg [Qf 0 false])
 .ret)
 .skip))
 (.seq (.sem (.reg [Qa 41 3,
sq 42 (.indexA 5 (.t 41) (kI 0)),
Qc 43 5 42,
sq 44 (.build [dI 0,dS ⟨#[]⟩,dI 0,dI 0,dS ⟨#[]⟩] [(0,1,(kI 1)),(1,1,(kS ⟨#[80,111,100,47,47,97]⟩)),(2,1,(kI 1))]),
sq 45 (.eqs false [(0,0),(1,2),(2,0),(3,0),(4,2)] (.t 43) (.t 44)),
Qa 46 45,
Qv 47 46 true 3,
zg 48 46 true (.indexA 5 (.t 47) (kI 1)),
Qu 49 46 true 5 48,
zg 50 46 true (.build [dI 0,dS ⟨#[]⟩,dI 0,dI 0,dS ⟨#[]⟩] [(0,1,(kI 4)),(1,1,(kS ⟨#[80,111,100,47,47,98]⟩)),(2,1,(kI 2))]),
zg 51 46 true (.eqs false [(0,0),(1,2),(2,0),(3,0),(4,2)] (.t 49) (.t 50)),
Qi 52 46 51,
Qa 53 52,
Qv 54 53 true 3,
zg 55 53 true (.indexA 5 (.t 54) (kI 2)),
Qu 56 53 true 5 55,
zg 57 53 true (.build [dI 0,dS ⟨#[]⟩,dI 0,dI 0,dS ⟨#[]⟩] [(0,1,(kI 3)),(1,1,(kS ⟨#[80,111,100,47,47,99]⟩)),(2,1,(kI 3)),(3,1,(kI 5))]),
zg 58 53 true (.eqs false [(0,0),(1,2),(2,0),(3,0),(4,2)] (.t 56) (.t 57)),
Qi 59 53 58,
Qa 60 59,
Qv 61 60 true 4,
zg 62 60 true (.indexA 1 (.t 61) (kI 0)),
Qt 63 60 true 62,
zg 64 60 true (.bin .eql (.t 63) (kS ⟨#[80,111,100,47,47,97]⟩)),
Qi 65 60 64,
Qa 66 65,
Qv 67 66 true 5,
zg 68 66 true (.indexA 5 (.t 67) (kI 0)),
Qu 69 66 true 5 68,
zg 70 66 true (.build [dI 0,dS ⟨#[]⟩,dI 0,dI 0,dS ⟨#[]⟩] [(0,1,(kI 2)),(1,1,(kS ⟨#[74,111,98,47,47,106]⟩)),(2,1,(kI 7)),(4,1,(kS ⟨#[102,111,114,101,103,114,111,117,110,100,45,100,101,108,101,116,105,111,110]⟩))]),
zg 71 66 true (.eqs false [(0,0),(1,2),(2,0),(3,0),(4,2)] (.t 69) (.t 70)),
Qi 72 66 71,
Qa 73 72,
Qv 74 73 true 2,
zg 75 73 true (.call 14 [(.t 74)]),
Qi 76 73 75,
Qa 77 76,
zg 78 77 true (.build [dS ⟨#[]⟩,dS ⟨#[]⟩,dI 0,dB false,dB false] [(2,1,(kI 1))]),
zg 79 77 true (.bslice 5 [(.t 78)]),
zg 80 77 true (.call 18 [(kS ⟨#[97]⟩),(kI 1),(.t 79)]),
zg 81 77 true (.bslice 23 [(.t 80)]),
zg 82 77 true (.call 14 [(.t 81)]),
zg 83 77 true (.not (.t 82)),
Qi 84 77 83,
Qa 0 84]))
 .ret))))))))⟩
theorem F8_ok{r}(h:F8=some r):CallD Try.prog 8 [] [] (tupV [.c (dB r)]) []:=by
 rw[F8]at h
 refine zc a8 (by kernel_rfl) rfl (ww ?_)
 obtain⟨o1,ho,h⟩:=bi h
 refine cutS (fun s=>s=⟨[(1,Pz 0)],[xb [dS ((⟨#[74,111,98]⟩:ByteArray)),dS ((⟨#[]⟩:ByteArray)),dS ((⟨#[106]⟩:ByteArray)),dI 7,dI 0,dI 0,dI 0,dB true,dI 0,dN,dN,dM (([(⟨#[102,111,114,101,103,114,111,117,110,100,45,100,101,108,101,116,105,111,110]⟩:ByteArray)]).map eS),dN,dI 0,dI 0,dS ((⟨#[]⟩:ByteArray)),dN,dN,dI 0,dI 0,dS ((⟨#[]⟩:ByteArray)),dN,dN]]⟩) ?_ ?_
 ·have h:=ho
  clear ho
  refine ww ?_
  refine t_bslice (enc:=eS) (ys:=[(⟨#[102,111,114,101,103,114,111,117,110,100,45,100,101,108,101,116,105,111,110]⟩:ByteArray)]) rfl rfl (by simp[A1.cells]) (by first|rfl|(simp only[List.drop_zero,take_mapL];rfl)|(simp only[lit,List.map_cons,List.map_nil,List.drop_zero,take_mapL,EE.down];done)|(simp only[lit,List.map_cons,List.map_nil,List.drop_zero,take_mapL,EE.down];rfl)) (ww ?_)
  cases h
  exact eM [some 1] rfl
 rintro _ rfl
 clear ho
 refine ww ?_
 refine t_bslice (enc:=eOwner) (ys:=[(⟨(⟨#[]⟩:ByteArray),(⟨#[]⟩:ByteArray),7,false,true⟩:Owner)]) rfl rfl (by simp[A1.cells]) (by first|rfl|(simp only[List.drop_zero,take_mapL];rfl)|(simp only[lit,List.map_cons,List.map_nil,List.drop_zero,take_mapL,EE.down];done)|(simp only[lit,List.map_cons,List.map_nil,List.drop_zero,take_mapL,EE.down];rfl)) (ww ?_)
 refine kD_new (by simp[wrs,allW,hset]) (ww ?_)
 obtain⟨t2,ht2,h⟩:=bi h
 refine callX_gen (as1:=[.c (dS ((⟨#[98]⟩:ByteArray))),.c (dI 2),.c (dM (([(⟨(⟨#[]⟩:ByteArray),(⟨#[]⟩:ByteArray),7,false,true⟩:Owner)]).map eOwner))]) [(1,.arr 1 5 [])] [some 0,none] [] (F18_ok ht2) ⟨?_,rfl,?_⟩ ?_ ?_ ?_ ?_ ?_ ?_ ?_ ?_
 ·simp only[ZZ.down,Nat.reduceEqDiff,reduceCtorEq,Nat.reduceAdd,Nat.reduceLeDiff,Nat.reduceLT,Nat.reduceBNe,EE.down]
 ·simp only[ZZ.down,Nat.reduceEqDiff,reduceCtorEq,Nat.reduceAdd,Nat.reduceLeDiff,Nat.reduceLT,Nat.reduceBNe,EE.down]
 ·simp only[ZZ.down,Nat.reduceEqDiff,reduceCtorEq,Nat.reduceAdd,Nat.reduceLeDiff,Nat.reduceLT,Nat.reduceBNe,EE.down]
 ·rfl
 ·rfl
 ·simp[liveAll,A1.live,C.live]
 ·rfl
 ·decide
 ·exact trivial
 refine ww ?_
 refine kD_own (by simp[wrs,allW,hset,ownW]) (ww ?_)
 refine t_bslice (enc:=eOwner) (ys:=[(⟨(⟨#[]⟩:ByteArray),(⟨#[]⟩:ByteArray),5,false,false⟩:Owner)]) rfl rfl (by simp[A1.cells]) (by first|rfl|(simp only[List.drop_zero,take_mapL];rfl)|(simp only[lit,List.map_cons,List.map_nil,List.drop_zero,take_mapL,EE.down];done)|(simp only[lit,List.map_cons,List.map_nil,List.drop_zero,take_mapL,EE.down];rfl)) (ww ?_)
 refine kD_new (by simp[wrs,allW,hset]) (ww ?_)
 obtain⟨t3,ht3,h⟩:=bi h
 refine callX_gen (as1:=[.c (dS ((⟨#[97]⟩:ByteArray))),.c (dI 1),.c (dM (([(⟨(⟨#[]⟩:ByteArray),(⟨#[]⟩:ByteArray),5,false,false⟩:Owner)]).map eOwner))]) [(2,.arr 1 5 [])] [some 0,some 1,none] [] (F18_ok ht3) ⟨?_,rfl,?_⟩ ?_ ?_ ?_ ?_ ?_ ?_ ?_ ?_
 ·simp only[ZZ.down,Nat.reduceEqDiff,reduceCtorEq,Nat.reduceAdd,Nat.reduceLeDiff,Nat.reduceLT,Nat.reduceBNe,EE.down]
 ·simp only[ZZ.down,Nat.reduceEqDiff,reduceCtorEq,Nat.reduceAdd,Nat.reduceLeDiff,Nat.reduceLT,Nat.reduceBNe,EE.down]
 ·simp only[ZZ.down,Nat.reduceEqDiff,reduceCtorEq,Nat.reduceAdd,Nat.reduceLeDiff,Nat.reduceLT,Nat.reduceBNe,EE.down]
 ·rfl
 ·rfl
 ·simp[liveAll,A1.live,C.live]
 ·rfl
 ·decide
 ·exact trivial
 refine ww ?_
 refine kD_own (by simp[wrs,allW,hset,ownW]) (ww ?_)
 refine t_bslice (enc:=eOwner) (ys:=[(⟨(⟨#[]⟩:ByteArray),(⟨#[]⟩:ByteArray),5,false,false⟩:Owner),(⟨(⟨#[]⟩:ByteArray),(⟨#[]⟩:ByteArray),1,false,false⟩:Owner)]) rfl rfl (by simp[A1.cells]) (by first|rfl|(simp only[List.drop_zero,take_mapL];rfl)|(simp only[lit,List.map_cons,List.map_nil,List.drop_zero,take_mapL,EE.down];done)|(simp only[lit,List.map_cons,List.map_nil,List.drop_zero,take_mapL,EE.down];rfl)) (ww ?_)
 refine kD_new (by simp[wrs,allW,hset]) (ww ?_)
 obtain⟨t4,ht4,h⟩:=bi h
 refine callX_gen (as1:=[.c (dS ((⟨#[99]⟩:ByteArray))),.c (dI 3),.c (dM (([(⟨(⟨#[]⟩:ByteArray),(⟨#[]⟩:ByteArray),5,false,false⟩:Owner),(⟨(⟨#[]⟩:ByteArray),(⟨#[]⟩:ByteArray),1,false,false⟩:Owner)]).map eOwner))]) [(3,.arr 1 5 [])] [some 0,some 1,some 2,none] [] (F18_ok ht4) ⟨?_,rfl,?_⟩ ?_ ?_ ?_ ?_ ?_ ?_ ?_ ?_
 ·simp only[ZZ.down,Nat.reduceEqDiff,reduceCtorEq,Nat.reduceAdd,Nat.reduceLeDiff,Nat.reduceLT,Nat.reduceBNe,EE.down]
 ·simp only[ZZ.down,Nat.reduceEqDiff,reduceCtorEq,Nat.reduceAdd,Nat.reduceLeDiff,Nat.reduceLT,Nat.reduceBNe,EE.down]
 ·simp only[ZZ.down,Nat.reduceEqDiff,reduceCtorEq,Nat.reduceAdd,Nat.reduceLeDiff,Nat.reduceLT,Nat.reduceBNe,EE.down]
 ·rfl
 ·rfl
 ·simp[liveAll,A1.live,C.live]
 ·rfl
 ·decide
 ·exact trivial
 refine ww ?_
 refine t_bslice (enc:=eObject) (ys:=(lit [(⟨(⟨(⟨#[80,111,100]⟩:ByteArray),(⟨#[]⟩:ByteArray),((⟨#[98]⟩:ByteArray)),(2:Int),0,0,0,false,0,[],([(⟨(⟨#[]⟩:ByteArray),(⟨#[]⟩:ByteArray),7,false,true⟩:Owner)]),[],[]⟩:Meta),(⟨0,0,(⟨#[]⟩:ByteArray),[],[]⟩:TValue),(⟨0,0,(⟨#[]⟩:ByteArray),[],[]⟩:TValue)⟩:Object),(⟨(⟨(⟨#[74,111,98]⟩:ByteArray),(⟨#[]⟩:ByteArray),(⟨#[106]⟩:ByteArray),7,0,0,0,true,0,[],[],[(⟨#[102,111,114,101,103,114,111,117,110,100,45,100,101,108,101,116,105,111,110]⟩:ByteArray)],[]⟩:Meta),(⟨0,0,(⟨#[]⟩:ByteArray),[],[]⟩:TValue),(⟨0,0,(⟨#[]⟩:ByteArray),[],[]⟩:TValue)⟩:Object),(⟨(⟨(⟨#[80,111,100]⟩:ByteArray),(⟨#[]⟩:ByteArray),((⟨#[97]⟩:ByteArray)),(1:Int),0,0,0,false,0,[],([(⟨(⟨#[]⟩:ByteArray),(⟨#[]⟩:ByteArray),5,false,false⟩:Owner)]),[],[]⟩:Meta),(⟨0,0,(⟨#[]⟩:ByteArray),[],[]⟩:TValue),(⟨0,0,(⟨#[]⟩:ByteArray),[],[]⟩:TValue)⟩:Object),(⟨(⟨(⟨#[80,111,100]⟩:ByteArray),(⟨#[]⟩:ByteArray),((⟨#[99]⟩:ByteArray)),(3:Int),0,0,0,false,0,[],([(⟨(⟨#[]⟩:ByteArray),(⟨#[]⟩:ByteArray),5,false,false⟩:Owner),(⟨(⟨#[]⟩:ByteArray),(⟨#[]⟩:ByteArray),1,false,false⟩:Owner)]),[],[]⟩:Meta),(⟨0,0,(⟨#[]⟩:ByteArray),[],[]⟩:TValue),(⟨0,0,(⟨#[]⟩:ByteArray),[],[]⟩:TValue)⟩:Object)])) rfl rfl (by simp[A1.cells]) (by first|rfl|(simp only[List.drop_zero,take_mapL];rfl)|(simp only[lit,List.map_cons,List.map_nil,List.drop_zero,take_mapL,EE.down];done)|(simp only[lit,List.map_cons,List.map_nil,List.drop_zero,take_mapL,EE.down];rfl)) (ww ?_)
 obtain⟨t5,ht5,h⟩:=bi h
 refine callX_borF (F10_ok ht5) (by simp only[borAs,bors,hp,List.getElem?_cons_zero,List.getElem?_cons_succ,Option.join_some,List.drop_zero,bor_full',true_and,Nat.zero_add,List.length_map,Nat.le_refl,nrm,List.length_cons,List.length_nil,Nat.reduceAdd,Nat.reduceLeDiff,List.take_succ_cons,List.take_zero,List.take_nil,List.map_cons,List.map_nil,List.length_set,EE.down]) rfl ⟨flat_rows (enc:=eGcAction) (fun _=>rfl) _,trivial⟩ ?_
 refine ww ?_
 obtain⟨t6,ht6,h⟩:=bi h
 refine callX_borF (F12_ok ht6) (by simp only[borAs,bors,hp,List.getElem?_cons_zero,List.getElem?_cons_succ,Option.join_some,List.drop_zero,bor_full',true_and,Nat.zero_add,List.length_map,Nat.le_refl,nrm,List.length_cons,List.length_nil,Nat.reduceAdd,Nat.reduceLeDiff,List.take_succ_cons,List.take_zero,List.take_nil,List.map_cons,List.map_nil,List.length_set,EE.down]) rfl ⟨flat_rows (enc:=eS) (fun _=>rfl) _,trivial⟩ ?_
 refine ww ?_
 refine t_bslice (enc:=eObject) (ys:=[(⟨(⟨(⟨#[74,111,98]⟩:ByteArray),(⟨#[]⟩:ByteArray),(⟨#[106]⟩:ByteArray),7,0,0,0,true,0,[],[],[(⟨#[102,111,114,101,103,114,111,117,110,100,45,100,101,108,101,116,105,111,110]⟩:ByteArray)],[]⟩:Meta),(⟨0,0,(⟨#[]⟩:ByteArray),[],[]⟩:TValue),(⟨0,0,(⟨#[]⟩:ByteArray),[],[]⟩:TValue)⟩:Object)]) rfl rfl (by simp[A1.cells]) (by first|rfl|(simp only[List.drop_zero,take_mapL];rfl)|(simp only[lit,List.map_cons,List.map_nil,List.drop_zero,take_mapL,EE.down];done)|(simp only[lit,List.map_cons,List.map_nil,List.drop_zero,take_mapL,EE.down];rfl)) (ww ?_)
 obtain⟨t7,ht7,h⟩:=bi h
 refine callX_borF (F10_ok ht7) (by simp only[borAs,bors,hp,List.getElem?_cons_zero,List.getElem?_cons_succ,Option.join_some,List.drop_zero,bor_full',true_and,Nat.zero_add,List.length_map,Nat.le_refl,nrm,List.length_cons,List.length_nil,Nat.reduceAdd,Nat.reduceLeDiff,List.take_succ_cons,List.take_zero,List.take_nil,List.map_cons,List.map_nil,List.length_set,EE.down]) rfl ⟨flat_rows (enc:=eGcAction) (fun _=>rfl) _,trivial⟩ ?_
 refine ww ?_
 obtain⟨o8,ho,h⟩:=bi h
 refine cutS (fun s=>s=⟨[(2,oc (.own 0 0 0 (((lit [(⟨(⟨(⟨#[80,111,100]⟩:ByteArray),(⟨#[]⟩:ByteArray),((⟨#[98]⟩:ByteArray)),(2:Int),0,0,0,false,0,[],([(⟨(⟨#[]⟩:ByteArray),(⟨#[]⟩:ByteArray),7,false,true⟩:Owner)]),[],[]⟩:Meta),(⟨0,0,(⟨#[]⟩:ByteArray),[],[]⟩:TValue),(⟨0,0,(⟨#[]⟩:ByteArray),[],[]⟩:TValue)⟩:Object),(⟨(⟨(⟨#[74,111,98]⟩:ByteArray),(⟨#[]⟩:ByteArray),(⟨#[106]⟩:ByteArray),7,0,0,0,true,0,[],[],[(⟨#[102,111,114,101,103,114,111,117,110,100,45,100,101,108,101,116,105,111,110]⟩:ByteArray)],[]⟩:Meta),(⟨0,0,(⟨#[]⟩:ByteArray),[],[]⟩:TValue),(⟨0,0,(⟨#[]⟩:ByteArray),[],[]⟩:TValue)⟩:Object),(⟨(⟨(⟨#[80,111,100]⟩:ByteArray),(⟨#[]⟩:ByteArray),((⟨#[97]⟩:ByteArray)),(1:Int),0,0,0,false,0,[],([(⟨(⟨#[]⟩:ByteArray),(⟨#[]⟩:ByteArray),5,false,false⟩:Owner)]),[],[]⟩:Meta),(⟨0,0,(⟨#[]⟩:ByteArray),[],[]⟩:TValue),(⟨0,0,(⟨#[]⟩:ByteArray),[],[]⟩:TValue)⟩:Object),(⟨(⟨(⟨#[80,111,100]⟩:ByteArray),(⟨#[]⟩:ByteArray),((⟨#[99]⟩:ByteArray)),(3:Int),0,0,0,false,0,[],([(⟨(⟨#[]⟩:ByteArray),(⟨#[]⟩:ByteArray),5,false,false⟩:Owner),(⟨(⟨#[]⟩:ByteArray),(⟨#[]⟩:ByteArray),1,false,false⟩:Owner)]),[],[]⟩:Meta),(⟨0,0,(⟨#[]⟩:ByteArray),[],[]⟩:TValue),(⟨0,0,(⟨#[]⟩:ByteArray),[],[]⟩:TValue)⟩:Object)])).length) none)),(3,oc (.own 1 0 0 (t5.length) none)),(4,oc (.own 2 0 0 (t6.length) none)),(5,oc (.own 3 0 0 (t7.length) none)),(40,oc (dB o8))],[some (.arr 0 23 (((lit [(⟨(⟨(⟨#[80,111,100]⟩:ByteArray),(⟨#[]⟩:ByteArray),((⟨#[98]⟩:ByteArray)),(2:Int),0,0,0,false,0,[],([(⟨(⟨#[]⟩:ByteArray),(⟨#[]⟩:ByteArray),7,false,true⟩:Owner)]),[],[]⟩:Meta),(⟨0,0,(⟨#[]⟩:ByteArray),[],[]⟩:TValue),(⟨0,0,(⟨#[]⟩:ByteArray),[],[]⟩:TValue)⟩:Object),(⟨(⟨(⟨#[74,111,98]⟩:ByteArray),(⟨#[]⟩:ByteArray),(⟨#[106]⟩:ByteArray),7,0,0,0,true,0,[],[],[(⟨#[102,111,114,101,103,114,111,117,110,100,45,100,101,108,101,116,105,111,110]⟩:ByteArray)],[]⟩:Meta),(⟨0,0,(⟨#[]⟩:ByteArray),[],[]⟩:TValue),(⟨0,0,(⟨#[]⟩:ByteArray),[],[]⟩:TValue)⟩:Object),(⟨(⟨(⟨#[80,111,100]⟩:ByteArray),(⟨#[]⟩:ByteArray),((⟨#[97]⟩:ByteArray)),(1:Int),0,0,0,false,0,[],([(⟨(⟨#[]⟩:ByteArray),(⟨#[]⟩:ByteArray),5,false,false⟩:Owner)]),[],[]⟩:Meta),(⟨0,0,(⟨#[]⟩:ByteArray),[],[]⟩:TValue),(⟨0,0,(⟨#[]⟩:ByteArray),[],[]⟩:TValue)⟩:Object),(⟨(⟨(⟨#[80,111,100]⟩:ByteArray),(⟨#[]⟩:ByteArray),((⟨#[99]⟩:ByteArray)),(3:Int),0,0,0,false,0,[],([(⟨(⟨#[]⟩:ByteArray),(⟨#[]⟩:ByteArray),5,false,false⟩:Owner),(⟨(⟨#[]⟩:ByteArray),(⟨#[]⟩:ByteArray),1,false,false⟩:Owner)]),[],[]⟩:Meta),(⟨0,0,(⟨#[]⟩:ByteArray),[],[]⟩:TValue),(⟨0,0,(⟨#[]⟩:ByteArray),[],[]⟩:TValue)⟩:Object)])).map eObject)),some (.arr 0 5 (t5.map eGcAction)),some (.arr 0 1 (t6.map eS)),some (.arr 0 5 (t7.map eGcAction))]⟩) ?_ ?_
 ·have h:=ho
  clear ho
  refine ww ?_
  refine guardSh h (fun g9 h=>ww ?_) (fun g9 h=>ww ?_)
  ·cases h
   exact eM [some 4,some 5,some 6,some 8] rfl
  refine guardSh h (fun g10 h=>ww ?_) (fun g10 h=>ww ?_)
  ·cases h
   exact eM [some 4,some 5,some 6,some 8] rfl
  cases h
  exact eM [some 4,some 5,some 6,some 8] rfl
 rintro _ rfl
 clear ho
 refine ww ?_
 refine condBh h (fun c11 h=>ww ?_) (fun c11 h=>ww ?_)
 ·cases h
  exact eF []
 obtain⟨o12,ho,h⟩:=bi h
 refine cutS (fun s=>s=⟨[(0,oc (dB o12))],[]⟩) ?_ ?_
 ·have h:=ho
  clear ho
  refine ww ?_
  obtain⟨y13,hy13,h⟩:=bi h
  refine t_idxO (enc:=eGcAction) (xs:=t5) rfl rfl rfl (by first|rfl|simp only[List.length_set]|exact(clrL_len (slI_len (by assumption))).symm) hy13 (ww ?_)
  refine LdRow.rd (rdI_some hy13).2.1 (ww ?_)
  refine guardSh h (fun g14 h=>ww ?_) (fun g14 h=>ww ?_)
  ·obtain⟨y15,hy15,h⟩:=bi h
   refine t_idxO (enc:=eGcAction) (xs:=t5) rfl rfl rfl (by first|rfl|simp only[List.length_set]|exact(clrL_len (slI_len (by assumption))).symm) hy15 (ww ?_)
   refine LdRow.rd (rdI_some hy15).2.1 (ww ?_)
   refine guardSh h (fun g16 h=>ww ?_) (fun g16 h=>ww ?_)
   ·obtain⟨y17,hy17,h⟩:=bi h
    refine t_idxO (enc:=eGcAction) (xs:=t5) rfl rfl rfl (by first|rfl|simp only[List.length_set]|exact(clrL_len (slI_len (by assumption))).symm) hy17 (ww ?_)
    refine LdRow.rd (rdI_some hy17).2.1 (ww ?_)
    refine guardSh h (fun g18 h=>ww ?_) (fun g18 h=>ww ?_)
    ·obtain⟨y19,hy19,h⟩:=bi h
     refine t_idxO (enc:=eS) (xs:=t6) rfl rfl rfl (by first|rfl|simp only[List.length_set]|exact(clrL_len (slI_len (by assumption))).symm) hy19 (ww ?_)
     refine LdRow.rd (rdI_some hy19).2.1 (ww ?_)
     refine guardSh h (fun g20 h=>ww ?_) (fun g20 h=>ww ?_)
     ·obtain⟨y21,hy21,h⟩:=bi h
      refine t_idxO (enc:=eGcAction) (xs:=t7) rfl rfl rfl (by first|rfl|simp only[List.length_set]|exact(clrL_len (slI_len (by assumption))).symm) hy21 (ww ?_)
      refine LdRow.rd (rdI_some hy21).2.1 (ww ?_)
      refine guardSh h (fun g22 h=>ww ?_) (fun g22 h=>ww ?_)
      ·obtain⟨t23,ht23,h⟩:=bi h
       refine callX_bor (F14_ok ht23) (by simp only[borAs,bors,hp,List.getElem?_cons_zero,List.getElem?_cons_succ,Option.join_some,List.drop_zero,bor_full',true_and,Nat.zero_add,List.length_map,Nat.le_refl,nrm,List.length_cons,List.length_nil,Nat.reduceAdd,Nat.reduceLeDiff,List.take_succ_cons,List.take_zero,List.take_nil,List.map_cons,List.map_nil,List.length_set,EE.down]) rfl ?_
       refine ww ?_
       refine guardSBh h (fun g24 h=>ww ?_) (fun g24 h=>ww ?_)
       ·refine t_bslice (enc:=eOwner) (ys:=[(⟨(⟨#[]⟩:ByteArray),(⟨#[]⟩:ByteArray),1,false,false⟩:Owner)]) rfl rfl (by simp[A1.cells]) (by first|rfl|(simp only[List.drop_zero,take_mapL];rfl)|(simp only[lit,List.map_cons,List.map_nil,List.drop_zero,take_mapL,EE.down];done)|(simp only[lit,List.map_cons,List.map_nil,List.drop_zero,take_mapL,EE.down];rfl)) (ww ?_)
        obtain⟨t25,ht25,h⟩:=bi h
        refine callX_gen (as1:=[.c (dS ((⟨#[97]⟩:ByteArray))),.c (dI 1),.c (dM (([(⟨(⟨#[]⟩:ByteArray),(⟨#[]⟩:ByteArray),1,false,false⟩:Owner)]).map eOwner))]) [(4,.arr 1 5 [])] [some 0,some 1,some 2,some 3,none] [] (F18_ok ht25) ⟨?_,rfl,?_⟩ ?_ ?_ ?_ ?_ ?_ ?_ ?_ ?_
        ·simp only[ZZ.down,Nat.reduceEqDiff,reduceCtorEq,Nat.reduceAdd,Nat.reduceLeDiff,Nat.reduceLT,Nat.reduceBNe,EE.down]
        ·simp only[ZZ.down,Nat.reduceEqDiff,reduceCtorEq,Nat.reduceAdd,Nat.reduceLeDiff,Nat.reduceLT,Nat.reduceBNe,EE.down]
        ·simp only[ZZ.down,Nat.reduceEqDiff,reduceCtorEq,Nat.reduceAdd,Nat.reduceLeDiff,Nat.reduceLT,Nat.reduceBNe,EE.down]
        ·rfl
        ·rfl
        ·simp[liveAll,A1.live,C.live]
        ·rfl
        ·decide
        ·exact trivial
        refine ww ?_
        refine t_bslice (enc:=eObject) (ys:=[(⟨(⟨(⟨#[80,111,100]⟩:ByteArray),(⟨#[]⟩:ByteArray),((⟨#[97]⟩:ByteArray)),(1:Int),0,0,0,false,0,[],([(⟨(⟨#[]⟩:ByteArray),(⟨#[]⟩:ByteArray),1,false,false⟩:Owner)]),[],[]⟩:Meta),(⟨0,0,(⟨#[]⟩:ByteArray),[],[]⟩:TValue),(⟨0,0,(⟨#[]⟩:ByteArray),[],[]⟩:TValue)⟩:Object)]) rfl rfl (by simp[A1.cells]) (by first|rfl|(simp only[List.drop_zero,take_mapL];rfl)|(simp only[lit,List.map_cons,List.map_nil,List.drop_zero,take_mapL,EE.down];done)|(simp only[lit,List.map_cons,List.map_nil,List.drop_zero,take_mapL,EE.down];rfl)) (ww ?_)
        obtain⟨t26,ht26,h⟩:=bi h
        refine callX_bor (F14_ok ht26) (by simp only[borAs,bors,hp,List.getElem?_cons_zero,List.getElem?_cons_succ,Option.join_some,List.drop_zero,bor_full',true_and,Nat.zero_add,List.length_map,Nat.le_refl,nrm,List.length_cons,List.length_nil,Nat.reduceAdd,Nat.reduceLeDiff,List.take_succ_cons,List.take_zero,List.take_nil,List.map_cons,List.map_nil,List.length_set,EE.down]) rfl ?_
        refine ww ?_
        cases h
        exact eM [] rfl
       cases h
       exact eM [] rfl
      cases h
      exact eM [] rfl
     cases h
     exact eM [] rfl
    cases h
    exact eM [] rfl
   cases h
   exact eM [] rfl
  cases h
  exact eM [] rfl
 rintro _ rfl
 clear ho
 refine ww ?_
 cases h
 exact eF []
end Go.Proofs.Ytdejhahgpojnoaa
