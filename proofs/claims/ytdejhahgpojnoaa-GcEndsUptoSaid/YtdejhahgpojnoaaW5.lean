/- Each Go function as a function over typed data, and its walk. -/
import Derived.Test.YtdejhahgpojnoaaW0
import Derived.Test.YtdejhahgpojnoaaW1
import Derived.Test.YtdejhahgpojnoaaW2
namespace Go.Proofs.Ytdejhahgpojnoaa
open Go Go.Fw Go.Shelf
set_option maxRecDepth 100000
set_option maxHeartbeats 4000000
set_option linter.unusedSimpArgs false
set_option linter.unusedVariables false
def F71_l1(x2:Int):Nat→(List GcAction)→Int→Int→Option ((List GcAction)×Int)
 |0,_,_,_=>none
 |k+1,o1_0,o1_1,o1_2=>(if¬(o1_1=o1_2)then(if o1_2<o1_1 then(F78 o1_0 ((IntKind.i64.wrap (x2-o1_1))) x2 o1_2).bind fun t4=>F71_l1 x2 k t4 ((IntKind.i64.wrap (o1_1-o1_2))) o1_2 else(F78 o1_0 ((IntKind.i64.wrap (x2-o1_1))) ((IntKind.i64.wrap (((IntKind.i64.wrap (x2+o1_2)))-o1_1))) o1_1).bind fun t5=>F71_l1 x2 k t5 o1_1 ((IntKind.i64.wrap (o1_2-o1_1))))else some ((o1_0,o1_1)))
def F71i(x0:(List GcAction))(x1:Int)(x2:Int)(x3:Int):Option ((List GcAction)):=((F71_l1 x2 1099511627776 x0 ((IntKind.i64.wrap (x2-x1))) ((IntKind.i64.wrap (x3-x2)))).bind fun o1=>(F78 o1.1 ((IntKind.i64.wrap (x2-o1.2))) x2 o1.2).bind fun t6=>some t6)
def F71(x0:(List GcAction))(x1:Int)(x2:Int)(x3:Int):Option ((List GcAction)):=(F71i x0 x1 x2 x3).bind fun r=>if r.length=x0.length then some r else none
theorem F71_len0{x0:(List GcAction)}{x1:Int}{x2:Int}{x3:Int}{r:(List GcAction)}(h:F71 x0 x1 x2 x3=some r):r.length=x0.length:=(guard_some h).2
def a71:AFn:=⟨58,[],
 (.seq (.reg [Qa 12 2,
Qa 13 1,
sq 14 (.bin .sub (.t 12) (.t 13)),
Qa 10 14])
 (.seq (.reg [Qa 15 3,
Qa 16 2,
sq 17 (.bin .sub (.t 15) (.t 16)),
Qa 11 17])
 (.seq (.sem (.block 0 (.loop (.seq (.seq (.reg [Qa 18 10,
Qa 19 11,
sq 20 (.bin .neq (.t 18) (.t 19))])
 (.cond (.t 20)
 .skip
 (.exit 0)))
 (.block 1 (.seq (.reg [Qa 21 10,
Qa 22 11,
sq 23 (.bin .gtr (.t 21) (.t 22))])
 (.cond (.t 23)
 (.seq (.reg [Qa 24 0,
Qa 25 2,
Qa 26 10,
sq 27 (.bin .sub (.t 25) (.t 26)),
Qa 28 2,
Qa 29 11,
Qa 30 4,
zl 31 (.call 78 [(.t 24),(.t 27),(.t 28),(.t 29),(.t 30)]) [] []])
 (.reg [Qa 32 10,
Qa 33 11,
sq 34 (.bin .sub (.t 32) (.t 33)),
Qa 10 34]))
 (.seq (.reg [Qa 35 0,
Qa 36 2,
Qa 37 10,
sq 38 (.bin .sub (.t 36) (.t 37)),
Qa 39 2,
Qa 40 11,
sq 41 (.bin .add (.t 39) (.t 40)),
Qa 42 10,
sq 43 (.bin .sub (.t 41) (.t 42)),
Qa 44 10,
Qa 45 4,
zl 46 (.call 78 [(.t 35),(.t 38),(.t 43),(.t 44),(.t 45)]) [] []])
 (.reg [Qa 47 11,
Qa 48 10,
sq 49 (.bin .sub (.t 47) (.t 48)),
Qa 11 49])))))))))
 (.reg [Qa 50 0,
Qa 51 2,
Qa 52 10,
sq 53 (.bin .sub (.t 51) (.t 52)),
Qa 54 2,
Qa 55 10,
Qa 56 4,
zl 57 (.call 78 [(.t 50),(.t 53),(.t 54),(.t 55),(.t 56)]) [] []]))))⟩
theorem F71_ok{x0 x1 x2 x3 r}{e0:Nat}(h:F71 x0 x1 x2 x3=some r):CallD Try.prog 71 [.c (.own 0 e0 0 (x0.length) none),.c (dI x1),.c (dI x2),.c (dI x3),.c (.fn 22 [])] [some (.arr e0 5 (x0.map eGcAction))] (tupV []) [some (.arr e0 5 (r.map eGcAction))]:=by
 replace h:=(guard_some h).1
 rw[F71i]at h
 refine zc a71 (by kernel_rfl) rfl (ww ?_)
 obtain⟨o1,ho,h⟩:=bi h
 refine cutS (fun s=>s=⟨[(0,oc (.own 0 e0 0 (o1.1.length) none)),(2,oc (dI x2)),(4,oc (.fn 22 [])),(10,oc (dI o1.2))],[some (.arr e0 5 (o1.1.map eGcAction))]⟩) ?_ ?_
 ·have h:=ho
  clear ho
  refine ww ?_
  refine bL (fun j s=>∃(o1_0:List GcAction) (o1_1:Int) (o1_2:Int),s=⟨[(0,oc (.own 0 e0 0 (o1_0.length) none)),(2,oc (dI x2)),(4,oc (.fn 22 [])),(10,oc (dI o1_1)),(11,oc (dI o1_2))],[some (.arr e0 5 (o1_0.map eGcAction))]⟩∧F71_l1 x2 j o1_0 o1_1 o1_2=some o1) 1099511627776 [some 0] ⟨x0,(IntKind.i64.wrap (x2-x1)),(IntKind.i64.wrap (x3-x2)),rfl,h⟩ ?_
  rintro j _ ⟨o1_0,o1_1,o1_2,rfl,h⟩
  cases j with
  |zero=>cases(show(none:Option _)=some _ from h)
  |succ j=>
   rw[F71_l1]at h
   refine ww ?_
   refine condSh h (fun c2 h=>ww ?_) (fun c2 h=>?_)
   ·refine condSh h (fun c3 h=>ww ?_) (fun c3 h=>?_)
    ·obtain⟨t4,ht4,h⟩:=bi h
     refine cN [0] (F78_ok (e0:=e0) ht4) ⟨⟨rfl,trivial⟩,trivial⟩ ?_
     refine ww ?_
     exact eL' j [some 0] ⟨t4,(IntKind.i64.wrap (o1_1-o1_2)),o1_2,rfl,h⟩ (Nat.lt_succ_self _) (hB:=by simp only[ZZ.down,Nat.reduceEqDiff,reduceCtorEq,Nat.reduceAdd,Nat.reduceLeDiff,Nat.reduceLT,Nat.reduceBNe,EE.down,F78_len0 ht4]) (hs:=by simp only[ZZ.down,Nat.reduceEqDiff,reduceCtorEq,Nat.reduceAdd,Nat.reduceLeDiff,Nat.reduceLT,Nat.reduceBNe,EE.down,F78_len0 ht4])
    ·refine ww ?_
     obtain⟨t5,ht5,h⟩:=bi h
     refine cN [0] (F78_ok (e0:=e0) ht5) ⟨⟨rfl,trivial⟩,trivial⟩ ?_
     refine ww ?_
     exact eL' j [some 0] ⟨t5,o1_1,(IntKind.i64.wrap (o1_2-o1_1)),rfl,h⟩ (Nat.lt_succ_self _) (hB:=by simp only[ZZ.down,Nat.reduceEqDiff,reduceCtorEq,Nat.reduceAdd,Nat.reduceLeDiff,Nat.reduceLT,Nat.reduceBNe,EE.down,F78_len0 ht5]) (hs:=by simp only[ZZ.down,Nat.reduceEqDiff,reduceCtorEq,Nat.reduceAdd,Nat.reduceLeDiff,Nat.reduceLT,Nat.reduceBNe,EE.down,F78_len0 ht5])
   ·refine ww ?_
    cases h
    exact eM [some 0] rfl
 rintro _ rfl
 clear ho
 refine ww ?_
 obtain⟨t6,ht6,h⟩:=bi h
 refine cN [0] (F78_ok (e0:=e0) ht6) ⟨⟨rfl,trivial⟩,trivial⟩ ?_
 refine ww ?_
 cases h
 exact eF [some 0] (hB:=by simp only[ZZ.down,Nat.reduceEqDiff,reduceCtorEq,Nat.reduceAdd,Nat.reduceLeDiff,Nat.reduceLT,Nat.reduceBNe,EE.down,F78_len0 ht6]) (hs:=by simp only[ZZ.down,Nat.reduceEqDiff,reduceCtorEq,Nat.reduceAdd,Nat.reduceLeDiff,Nat.reduceLT,Nat.reduceBNe,EE.down,F78_len0 ht6])
def F55v4_l1(b0:Int)(b1:Bool):List Owner→Nat→Option ((Int) ⊕ (Unit))
 |[],o1_0=>some (Sum.inr (()))
 |xo1::xs,o1_0=>(F48 xo1 b0 b1).bind fun t3=>(if t3=true then(some ((o1_0:Int))).map Sum.inl else F55v4_l1 b0 b1 xs (o1_0+1))
def F55v4(x0:(List Owner))(b0:Int)(b1:Bool):Option (Int):=(((ck (0≤x0.length∧x0.length≤4294967290)).bind fun u5=>F55v4_l1 b0 b1 x0 0:Option ((Int) ⊕ (Unit))).bind fun o1=>match o1 with|Sum.inl f=>some f|Sum.inr po1=>some ((-1)))
def a55v4:AFn:=⟨19,[(.tmp 4)],
 (.seq (.reg [Qe 4 0])
 (.seq (.seq (.reg [Qa 6 0,
Qh 7 6,
Qe 8 0])
 (.sem (.block 0 (.loop (.seq (.reg [Qn 9 8 7])
 (.seq (.cond (.t 9)
 .skip
 (.exit 0))
 (.seq (.block 1 (.seq (.reg [Qa 10 8,
Qa 5 10])
 (.seq (.reg [Qa 11 1,
Qa 12 0,
Qa 13 5,
Qp 14 5 12 13,
Qc 15 5 14,
zl 16 (.callv (.t 11) [(.t 15)]) [] [12,14]])
 (.cond (.t 16)
 (.seq (.reg [Qa 17 5,
Qa 4 17])
 .ret)
 .skip))))
 (.reg [Qm 18 8 1,
Qa 8 18]))))))))
 (.seq (.reg [sq 4 (.mv (kI (-1)))])
 .ret)))⟩
theorem a55v4_ok:afn Try.prog 55=some a55v4.er:=by kernel_rfl
theorem F55v4_ok{x0 b0 b1 r}(h:F55v4 x0 b0 b1=some r):CallD Try.prog 55 [.c (dM (x0.map eOwner)),.c (.fn 48 [(0,0),(1,0)])] [xb [dI b0],xb [dB b1]] (tupV [.c (dI r)]) [xb [dI b0],xb [dB b1]]:=by
 refine callS a55v4_ok (by simp[a55v4]) ?_
 rw[F55v4]at h
 simp only[a55v4,VW.down,Nat.reduceEqDiff,reduceCtorEq,Nat.reduceAdd,Nat.reduceLeDiff,Nat.reduceLT,Nat.reduceBEq,Nat.reduceSub,EE.down]
 obtain⟨o1,ho,h⟩:=bi h
 refine cutS (fun s=>∃po1,o1=Sum.inr po1∧s=⟨[],[xb [dI b0],xb [dB b1]]⟩) ?_ ?_
 ·have h0o1:=h
  have h:=ho
  clear ho
  obtain⟨_,hk,h⟩:=bi h
  have hk:=ck_some hk
  refine ww ?_
  refine bL (fun j s=>∃(o1_0:Nat),(o1_0≤x0.length∧j=x0.length-o1_0)∧s=⟨[(0,oc (dM (x0.map eOwner))),(1,oc (.fn 48 [(0,0),(1,0)])),(7,oc (dI ((x0.length:Int)))),(8,oc (dI ((o1_0:Int))))],[xb [dI b0],xb [dB b1]]⟩∧F55v4_l1 b0 b1 (x0.drop o1_0) o1_0=some o1) (x0.length-0) [some 0,some 1] ⟨0,⟨hk.1,rfl⟩,rfl,h⟩ ?_
  rintro _ _ ⟨o1_0,⟨hi,rfl⟩,rfl,h⟩
  refine ww ?_
  refine condS (fun c2=>?_) (fun c2=>?_)
  ·obtain⟨xo1,hxo1,hd⟩:=countY (show(o1_0:Int)<(x0.length:Int)from c2)
   rw[hd,F55v4_l1]at h
   refine ww ?_
   refine t_idxF (enc:=eOwner) (xs:=x0) rfl rfl hxo1 rfl (ww ?_)
   obtain⟨t3,ht3,h⟩:=bi h
   refine cN [0,1] (F48_ok ht3) ⟨⟨rfl,by simp[Blk.live,C.live,hp]⟩,⟨⟨rfl,by simp[Blk.live,C.live,hp]⟩,trivial⟩⟩ ?_
   refine ww ?_
   refine condBh h (fun c4 h=>ww ?_) (fun c4 h=>ww ?_)
   ·obtain⟨fh0o1,hfh0o1,rfl⟩:=Option.map_eq_some_iff.1 h
    have h:=hfh0o1.trans h0o1
    cases h
    exact eF [some 0,some 1]
   rw[wrapN (by omega)]
   exact eL' (x0.length-(o1_0+1)) [some 0,some 1] ⟨o1_0+1,⟨by omega,rfl⟩,rfl,h⟩ (by omega)
  rw[countN (show¬((o1_0:Int)<(x0.length:Int))from c2),F55v4_l1]at h
  refine ww ?_
  cases h
  exact eM [some 0,some 1] ⟨_,rfl,rfl⟩
 rintro _ ⟨po1,rfl,rfl⟩
 clear ho
 dsimp only at h
 refine ww ?_
 cases h
 exact eF [some 0,some 1]
end Go.Proofs.Ytdejhahgpojnoaa
