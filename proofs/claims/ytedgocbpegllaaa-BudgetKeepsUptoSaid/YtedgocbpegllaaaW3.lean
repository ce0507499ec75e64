/- Each Go function as a function over typed data, and its walk. -/
import Derived.Test.YtedgocbpegllaaaW0
namespace Go.Proofs.Ytedgocbpegllaaa
open Go Go.Fw Go.Shelf
set_option maxRecDepth 100000
set_option maxHeartbeats 4000000
set_option linter.unusedSimpArgs false
set_option linter.unusedVariables false
def F51(x0:ByteArray)(x1:ByteArray)(x2:ByteArray):Option (ByteArray):=(catI x0 ((⟨#[47]⟩:ByteArray))).bind fun s1=>(catI s1 x1).bind fun s2=>(catI s2 ((⟨#[47]⟩:ByteArray))).bind fun s3=>(catI s3 x2).bind fun s4=>some s4
def a51:AFn:=⟨14,[(.tmp 6)],
 (.seq (.reg [sq 6 (.mv (kS ⟨#[]⟩))])
 (.seq (.reg [Qa 7 0,
sq 8 (.bin .add (.t 7) (kS ⟨#[47]⟩)),
Qa 9 1,
sq 10 (.bin .add (.t 8) (.t 9)),
sq 11 (.bin .add (.t 10) (kS ⟨#[47]⟩)),
Qa 12 2,
sq 13 (.bin .add (.t 11) (.t 12)),
Qa 6 13])
 .ret))⟩
theorem F51_ok{x0 x1 x2 r}(h:F51 x0 x1 x2=some r):CallD Try.prog 51 [.c (dS x0),.c (dS x1),.c (dS x2)] [] (tupV [.c (dS r)]) []:=by
 rw[F51]at h
 refine zc a51 (by kernel_rfl) rfl (ww ?_)
 obtain⟨s1,hs1,h⟩:=bi h
 obtain⟨hle,es1⟩:=cat_some hs1
 refine⟨hle,?_⟩
 first|rw[←es1]|subst es1
 refine ww ?_
 obtain⟨s2,hs2,h⟩:=bi h
 obtain⟨hle,es2⟩:=cat_some hs2
 refine⟨hle,?_⟩
 first|rw[←es2]|subst es2
 refine ww ?_
 obtain⟨s3,hs3,h⟩:=bi h
 obtain⟨hle,es3⟩:=cat_some hs3
 refine⟨hle,?_⟩
 first|rw[←es3]|subst es3
 refine ww ?_
 obtain⟨s4,hs4,h⟩:=bi h
 obtain⟨hle,es4⟩:=cat_some hs4
 refine⟨hle,?_⟩
 first|rw[←es4]|subst es4
 refine ww ?_
 cases h
 exact eF []
theorem a54_ok:afn Try.prog 54=some (cloneA 1 16):=by kernel_rfl
theorem F54_ok{x0 r:List ByteArray}(h:cloneI x0=some r):CallD Try.prog 54 [.c (dM (x0.map eS))] [] (tupV [.c (.own 0 1 0 r.length none)]) [some (.arr 1 1 (r.map eS))]:=L_clone a54_ok (fun _=>rfl) h
theorem a57_ok:afn Try.prog 57=some (cloneA 2 16):=by kernel_rfl
theorem F57_ok{x0 r:List Amount}(h:cloneI x0=some r):CallD Try.prog 57 [.c (dM (x0.map eAmount))] [] (tupV [.c (.own 0 1 0 r.length none)]) [some (.arr 1 2 (r.map eAmount))]:=L_clone a57_ok (fun _=>rfl) h
theorem a58_ok:afn Try.prog 58=some (cloneA 2 24):=by kernel_rfl
theorem F58_ok{x0 r:List WorkItem}(h:cloneI x0=some r):CallD Try.prog 58 [.c (dM (x0.map eWorkItem))] [] (tupV [.c (.own 0 1 0 r.length none)]) [some (.arr 1 2 (r.map eWorkItem))]:=L_clone a58_ok (fun _=>rfl) h
def F75_l1(x1:ByteArray):List Label→Nat→Option ((ByteArray×Bool) ⊕ (Unit))
 |[],o1_0=>some (Sum.inr (()))
 |xo1::xs,o1_0=>(if xo1.Key=x1 then(some ((xo1.Value,true))).map Sum.inl else F75_l1 x1 xs (o1_0+1))
def F75(x0:(List Label))(x1:ByteArray):Option (ByteArray×Bool):=(((ck (0≤x0.length∧x0.length≤4294967290)).bind fun u4=>F75_l1 x1 x0 0:Option ((ByteArray×Bool) ⊕ (Unit))).bind fun o1=>match o1 with|Sum.inl f=>some f|Sum.inr po1=>some (((⟨#[]⟩:ByteArray),false)))
def a75:AFn:=⟨21,[(.tmp 4),(.tmp 5)],
 (.seq (.reg [sq 4 (.mv (kS ⟨#[]⟩)),
Qf 5 false])
 (.seq (.seq (.reg [Qa 8 0,
Qh 9 8,
Qe 10 0])
 (.sem (.block 0 (.loop (.seq (.reg [Qn 11 10 9])
 (.seq (.cond (.t 11)
 .skip
 (.exit 0))
 (.seq (.block 1 (.seq (.reg [Qp 12 2 8 10,
Qc 13 2 12,
sq 7 (.zbox [dS ⟨#[]⟩,dS ⟨#[]⟩]),
su (.store 2 (.t 7) (.t 13))])
 (.seq (.reg [Qb 14 0 7,
Qd 15 14,
Qa 16 1,
sq 17 (.bin .eql (.t 15) (.t 16))])
 (.cond (.t 17)
 (.seq (.reg [Qb 18 1 7,
Qd 19 18,
Qa 4 19,
Qf 5 true])
 .ret)
 .skip))))
 (.reg [Qm 20 10 1,
Qa 10 20]))))))))
 (.seq (.reg [sq 4 (.mv (kS ⟨#[]⟩)),
Qf 5 false])
 .ret)))⟩
theorem F75_ok{x0 x1 r}(h:F75 x0 x1=some r):CallD Try.prog 75 [.c (dM (x0.map eLabel)),.c (dS x1)] [] (tupV [.c (dS r.1),.c (dB r.2)]) []:=by
 rw[F75]at h
 refine zc a75 (by kernel_rfl) rfl (ww ?_)
 obtain⟨o1,ho,h⟩:=bi h
 refine cutS (fun s=>∃po1,o1=Sum.inr po1∧s=⟨[],[]⟩) ?_ ?_
 ·have h0o1:=h
  have h:=ho
  clear ho
  obtain⟨_,hk,h⟩:=bi h
  have hk:=ck_some hk
  refine ww ?_
  refine bL (fun j s=>∃(o1_0:Nat),(o1_0≤x0.length∧j=x0.length-o1_0)∧s=⟨[(1,oc (dS x1)),(8,oc (dM (x0.map eLabel))),(9,oc (dI ((x0.length:Int)))),(10,oc (dI ((o1_0:Int))))],[]⟩∧F75_l1 x1 (x0.drop o1_0) o1_0=some o1) (x0.length-0) [] ⟨0,⟨hk.1,rfl⟩,rfl,h⟩ ?_
  rintro _ _ ⟨o1_0,⟨hi,rfl⟩,rfl,h⟩
  refine ww ?_
  refine condS (fun c2=>?_) (fun c2=>?_)
  ·obtain⟨xo1,hxo1,hd⟩:=countY (show(o1_0:Int)<(x0.length:Int)from c2)
   rw[hd,F75_l1]at h
   refine ww ?_
   refine t_idxF (enc:=eLabel) (xs:=x0) rfl rfl hxo1 rfl (ww ?_)
   refine condSh h (fun c3 h=>ww ?_) (fun c3 h=>ww ?_)
   ·obtain⟨fh0o1,hfh0o1,rfl⟩:=Option.map_eq_some_iff.1 h
    have h:=hfh0o1.trans h0o1
    cases h
    exact eF []
   rw[wrapN (by omega)]
   exact eL' (x0.length-(o1_0+1)) [] ⟨o1_0+1,⟨by omega,rfl⟩,rfl,h⟩ (by omega)
  rw[countN (show¬((o1_0:Int)<(x0.length:Int))from c2),F75_l1]at h
  refine ww ?_
  cases h
  exact eM [] ⟨_,rfl,rfl⟩
 rintro _ ⟨po1,rfl,rfl⟩
 clear ho
 dsimp only at h
 refine ww ?_
 cases h
 exact eF []
def F80_l1(x1:ByteArray):List ByteArray→Nat→Option ((Int) ⊕ (Unit))
 |[],o1_0=>some (Sum.inr (()))
 |xo1::xs,o1_0=>(if x1=xo1 then(some ((o1_0:Int))).map Sum.inl else F80_l1 x1 xs (o1_0+1))
def F80(x0:(List ByteArray))(x1:ByteArray):Option (Int):=(((ck (0≤x0.length∧x0.length≤4294967290)).bind fun u4=>F80_l1 x1 x0 0:Option ((Int) ⊕ (Unit))).bind fun o1=>match o1 with|Sum.inl f=>some f|Sum.inr po1=>some ((-1)))
def a80:AFn:=⟨19,[(.tmp 4)],
 (.seq (.reg [Qe 4 0])
 (.seq (.seq (.reg [Qa 6 0,
Qh 7 6,
Qe 8 0])
 (.sem (.block 0 (.loop (.seq (.reg [Qn 9 8 7])
 (.seq (.cond (.t 9)
 .skip
 (.exit 0))
 (.seq (.block 1 (.seq (.reg [Qa 10 8,
Qa 5 10])
 (.seq (.reg [Qa 11 1,
Qa 12 0,
Qa 13 5,
Qp 14 1 12 13,
Qd 15 14,
sq 16 (.bin .eql (.t 11) (.t 15))])
 (.cond (.t 16)
 (.seq (.reg [Qa 17 5,
Qa 4 17])
 .ret)
 .skip))))
 (.reg [Qm 18 8 1,
Qa 8 18]))))))))
 (.seq (.reg [sq 4 (.mv (kI (-1)))])
 .ret)))⟩
theorem F80_ok{x0 x1 r}(h:F80 x0 x1=some r):CallD Try.prog 80 [.c (dM (x0.map eS)),.c (dS x1)] [] (tupV [.c (dI r)]) []:=by
 rw[F80]at h
 refine zc a80 (by kernel_rfl) rfl (ww ?_)
 obtain⟨o1,ho,h⟩:=bi h
 refine cutS (fun s=>∃po1,o1=Sum.inr po1∧s=⟨[],[]⟩) ?_ ?_
 ·have h0o1:=h
  have h:=ho
  clear ho
  obtain⟨_,hk,h⟩:=bi h
  have hk:=ck_some hk
  refine ww ?_
  refine bL (fun j s=>∃(o1_0:Nat),(o1_0≤x0.length∧j=x0.length-o1_0)∧s=⟨[(0,oc (dM (x0.map eS))),(1,oc (dS x1)),(7,oc (dI ((x0.length:Int)))),(8,oc (dI ((o1_0:Int))))],[]⟩∧F80_l1 x1 (x0.drop o1_0) o1_0=some o1) (x0.length-0) [] ⟨0,⟨hk.1,rfl⟩,rfl,h⟩ ?_
  rintro _ _ ⟨o1_0,⟨hi,rfl⟩,rfl,h⟩
  refine ww ?_
  refine condS (fun c2=>?_) (fun c2=>?_)
  ·obtain⟨xo1,hxo1,hd⟩:=countY (show(o1_0:Int)<(x0.length:Int)from c2)
   rw[hd,F80_l1]at h
   refine ww ?_
   refine t_idxF (enc:=eS) (xs:=x0) rfl rfl hxo1 rfl (ww ?_)
   refine condSh h (fun c3 h=>ww ?_) (fun c3 h=>ww ?_)
   ·obtain⟨fh0o1,hfh0o1,rfl⟩:=Option.map_eq_some_iff.1 h
    have h:=hfh0o1.trans h0o1
    cases h
    exact eF []
   rw[wrapN (by omega)]
   exact eL' (x0.length-(o1_0+1)) [] ⟨o1_0+1,⟨by omega,rfl⟩,rfl,h⟩ (by omega)
  rw[countN (show¬((o1_0:Int)<(x0.length:Int))from c2),F80_l1]at h
  refine ww ?_
  cases h
  exact eM [] ⟨_,rfl,rfl⟩
 rintro _ ⟨po1,rfl,rfl⟩
 clear ho
 dsimp only at h
 refine ww ?_
 cases h
 exact eF []
def F63(x0:WorkItem)(b0:ByteArray):Option (Unit):=some (())
def a63:AFn:=⟨8,[(.tmp 3)],
 (.seq (.reg [Qg 2 0,
Qf 3 false])
 (.seq (.reg [Qb 4 0 2,
Qd 5 4,
Qd 6 1,
sq 7 (.bin .eql (.t 5) (.t 6)),
Qa 3 7])
 .ret))⟩
theorem F63_ok{x0 b0 r}(h:F63 x0 b0=some r):CallD Try.prog 63 [.agg [dS x0.Key,dI x0.At],.c (.pt 0 0)] [xb [dS b0]] (tupV [.c (dB (decide (x0.Key=b0)))]) [xb [dS b0]]:=by
 rw[F63]at h
 refine zc a63 (by kernel_rfl) rfl (ww ?_)
 cases h
 exact eF [some 0]
def cF14a3:AC:=(.reg [Qa 21 10,
Qh 22 21,
Qe 23 0])
def F14a3(l:List Budget)(pods:List Pod)(key:ByteArray)(now:Int)(cs:List RBud):Option (Unit):=some (())
theorem F14a3_ok{l pods key now cs r}(h:F14a3 l pods key now cs=some r):sK Try.prog 118 0 cF14a3 [] (sM 118 0 (fun s=>s=⟨[(0,oc (dM (l.map eBudget))),(1,oc (dM (pods.map ePod))),(3,oc (dI now)),(6,Pz 0),(10,oc (.own 1 0 0 (cs.length) none)),(21,oc (.own 1 0 0 (cs.length) none)),(22,oc (dI ((cs.length:Int)))),(23,oc (dI 0))],[xb [dS key],some (.arr 0 22 (cs.map eRBud))]⟩) (xQ 118 0 (fun _ _=>False) (fun _=>False)))
 ⟨[(0,oc (dM (l.map eBudget))),(1,oc (dM (pods.map ePod))),(3,oc (dI now)),(6,Pz 0),(10,oc (.own 1 0 0 (cs.length) none))],[xb [dS key],some (.arr 0 22 (cs.map eRBud))]⟩:=by
 rw[F14a3]at h
 simp only[cF14a3,VW.down,Nat.reduceEqDiff,reduceCtorEq,Nat.reduceAdd,Nat.reduceLeDiff,Nat.reduceLT,Nat.reduceBEq,Nat.reduceSub,EE.down]
 cases h
 exact eM [some 0,some 1] rfl
def cF14b5:AC:=(.reg [Qm 33 23 1,
Qa 23 33])
def F14b5(l:List Budget)(pods:List Pod)(key:ByteArray)(now:Int)(cs:List RBud)(n:Int)(i:Int):Option (Unit):=some (())
theorem F14b5_ok{l pods key now cs n i r}(h:F14b5 l pods key now cs n i=some r):sK Try.prog 118 0 cF14b5 [] (sM 118 0 (fun s=>s=⟨[(0,oc (dM (l.map eBudget))),(1,oc (dM (pods.map ePod))),(3,oc (dI now)),(6,Pz 0),(10,oc (.own 1 0 0 (cs.length) none)),(21,oc (.own 1 0 0 (cs.length) none)),(22,oc (dI n)),(23,oc (dI ((IntKind.i64.wrap (i+1)))))],[xb [dS key],some (.arr 0 22 (cs.map eRBud))]⟩) (xQ 118 0 (fun _ _=>False) (fun _=>False)))
 ⟨[(0,oc (dM (l.map eBudget))),(1,oc (dM (pods.map ePod))),(3,oc (dI now)),(6,Pz 0),(10,oc (.own 1 0 0 (cs.length) none)),(21,oc (.own 1 0 0 (cs.length) none)),(22,oc (dI n)),(23,oc (dI i))],[xb [dS key],some (.arr 0 22 (cs.map eRBud))]⟩:=by
 rw[F14b5]at h
 simp only[cF14b5,VW.down,Nat.reduceEqDiff,reduceCtorEq,Nat.reduceAdd,Nat.reduceLeDiff,Nat.reduceLT,Nat.reduceBEq,Nat.reduceSub,EE.down]
 cases h
 exact eM [some 0,some 1] rfl
def cF14m4:AC:=(.reg [Qa 71 10,
Qh 72 71,
Qe 73 0])
def F14m4(pods:List Pod)(key:ByteArray)(cs:List RBud)(at_:Int)(item:WorkItem):Option (Unit):=some (())
theorem F14m4_ok{pods key cs at_ item r}(h:F14m4 pods key cs at_ item=some r):sK Try.prog 118 0 cF14m4 [] (sM 118 0 (fun s=>s=⟨[(1,oc (dM (pods.map ePod))),(6,Pz 0),(10,oc (.own 1 0 0 (cs.length) none)),(13,oc (dI at_)),(14,Pz 2),(71,oc (.own 1 0 0 (cs.length) none)),(72,oc (dI ((cs.length:Int)))),(73,oc (dI 0))],[xb [dS key],some (.arr 0 22 (cs.map eRBud)),xb [dS item.Key,dI item.At]]⟩) (xQ 118 0 (fun _ _=>False) (fun _=>False)))
 ⟨[(1,oc (dM (pods.map ePod))),(6,Pz 0),(10,oc (.own 1 0 0 (cs.length) none)),(13,oc (dI at_)),(14,Pz 2)],[xb [dS key],some (.arr 0 22 (cs.map eRBud)),xb [dS item.Key,dI item.At]]⟩:=by
 rw[F14m4]at h
 simp only[cF14m4,VW.down,Nat.reduceEqDiff,reduceCtorEq,Nat.reduceAdd,Nat.reduceLeDiff,Nat.reduceLT,Nat.reduceBEq,Nat.reduceSub,EE.down]
 cases h
 exact eM [some 0,some 1,some 2] rfl
noncomputable def fn67:Func:=(Try.prog.funcs[67]?).getD default
theorem fn67_ok:Try.prog.funcs[67]? =some fn67:=by kernel_rfl
theorem ov67(e0 e1 o0 o1 l0 l1:Nat)(c0 c1:Option Nat)(r0 r1:List (List D)):
 CallD Try.prog 67 [.c (.own 0 e0 o0 l0 c0),.c (.own 1 e1 o1 l1 c1)] [some (.arr e0 2 r0),some (.arr e1 2 r1)] (.one (aB false)) [some (.arr e0 2 r0),some (.arr e1 2 r1)]:=
 ovl_callD (tS:=30) (tT:=4) (e:=64) (ps:= #[30,30]) (rs:= #[4]) fn67_ok (by kernel_rfl) (by kernel_rfl) (by kernel_rfl) (by kernel_rfl) rfl rfl (by kernel_rfl) (by kernel_rfl) e0 e1 o0 o1 l0 l1 c0 c1 r0 r1
def F77_l1(x1:ByteArray):List Label→Nat→Option ((ByteArray×Bool) ⊕ (Unit))
 |[],o1_0=>some (Sum.inr (()))
 |xo1::xs,o1_0=>(if xo1.Key=x1 then(some ((xo1.Value,true))).map Sum.inl else F77_l1 x1 xs (o1_0+1))
def F77(x0:(List Label))(x1:ByteArray):Option (ByteArray×Bool):=(((ck (0≤x0.length∧x0.length≤4294967290)).bind fun u4=>F77_l1 x1 x0 0:Option ((ByteArray×Bool) ⊕ (Unit))).bind fun o1=>match o1 with|Sum.inl f=>some f|Sum.inr po1=>some (((⟨#[]⟩:ByteArray),false)))
def a77:AFn:=⟨25,[(.tmp 4),(.tmp 5)],
 (.seq (.reg [sq 4 (.mv (kS ⟨#[]⟩)),
Qf 5 false])
 (.seq (.seq (.reg [Qe 6 0])
 (.sem (.block 0 (.loop (.seq (.seq (.reg [Qa 7 6,
Qa 8 0,
Qh 9 8,
Qn 10 7 9])
 (.cond (.t 10)
 .skip
 (.exit 0)))
 (.seq (.block 1 (.seq (.reg [Qa 13 0,
Qa 14 6,
Qp 15 2 13 14,
Qb 16 0 15,
Qd 17 16,
Qa 18 1,
sq 19 (.bin .eql (.t 17) (.t 18))])
 (.cond (.t 19)
 (.seq (.reg [Qa 20 0,
Qa 21 6,
Qp 22 2 20 21,
Qb 23 1 22,
Qd 24 23,
Qa 4 24,
Qf 5 true])
 .ret)
 .skip)))
 (.reg [Qa 11 6,
Qm 12 11 1,
Qa 6 12])))))))
 (.seq (.reg [sq 4 (.mv (kS ⟨#[]⟩)),
Qf 5 false])
 .ret)))⟩
theorem F77_ok{x0 x1 r}(h:F77 x0 x1=some r):CallD Try.prog 77 [.c (dM (x0.map eLabel)),.c (dS x1)] [] (tupV [.c (dS r.1),.c (dB r.2)]) []:=by
 rw[F77]at h
 refine zc a77 (by kernel_rfl) rfl (ww ?_)
 obtain⟨o1,ho,h⟩:=bi h
 refine cutS (fun s=>∃po1,o1=Sum.inr po1∧s=⟨[],[]⟩) ?_ ?_
 ·have h0o1:=h
  have h:=ho
  clear ho
  obtain⟨_,hk,h⟩:=bi h
  have hk:=ck_some hk
  refine ww ?_
  refine bL (fun j s=>∃(o1_0:Nat),(o1_0≤x0.length∧j=x0.length-o1_0)∧s=⟨[(0,oc (dM (x0.map eLabel))),(1,oc (dS x1)),(6,oc (dI ((o1_0:Int))))],[]⟩∧F77_l1 x1 (x0.drop o1_0) o1_0=some o1) (x0.length-0) [] ⟨0,⟨hk.1,rfl⟩,rfl,h⟩ ?_
  rintro _ _ ⟨o1_0,⟨hi,rfl⟩,rfl,h⟩
  refine ww ?_
  refine condS (fun c2=>?_) (fun c2=>?_)
  ·obtain⟨xo1,hxo1,hd⟩:=countY (show(o1_0:Int)<(x0.length:Int)from c2)
   rw[hd,F77_l1]at h
   refine ww ?_
   refine t_idxF (enc:=eLabel) (xs:=x0) rfl rfl hxo1 rfl (ww ?_)
   refine condSh h (fun c3 h=>ww ?_) (fun c3 h=>ww ?_)
   ·refine t_idxF (enc:=eLabel) (xs:=x0) rfl rfl hxo1 rfl (ww ?_)
    obtain⟨fh0o1,hfh0o1,rfl⟩:=Option.map_eq_some_iff.1 h
    have h:=hfh0o1.trans h0o1
    cases h
    exact eF []
   rw[wrapN (by omega)]
   exact eL' (x0.length-(o1_0+1)) [] ⟨o1_0+1,⟨by omega,rfl⟩,rfl,h⟩ (by omega)
  rw[countN (show¬((o1_0:Int)<(x0.length:Int))from c2),F77_l1]at h
  refine ww ?_
  cases h
  exact eM [] ⟨_,rfl,rfl⟩
 rintro _ ⟨po1,rfl,rfl⟩
 clear ho
 dsimp only at h
 refine ww ?_
 cases h
 exact eF []
def F78_l1(x1:ByteArray):List ByteArray→Nat→Option ((Bool) ⊕ (Unit))
 |[],o1_0=>some (Sum.inr (()))
 |xo1::xs,o1_0=>(if xo1=x1 then(some true).map Sum.inl else F78_l1 x1 xs (o1_0+1))
def F78(x0:(List ByteArray))(x1:ByteArray):Option (Bool):=(((ck (0≤x0.length∧x0.length≤4294967290)).bind fun u4=>F78_l1 x1 x0 0:Option ((Bool) ⊕ (Unit))).bind fun o1=>match o1 with|Sum.inl f=>some f|Sum.inr po1=>some false)
def a78:AFn:=⟨18,[(.tmp 4)],
 (.seq (.reg [Qf 4 false])
 (.seq (.seq (.reg [Qe 5 0])
 (.sem (.block 0 (.loop (.seq (.seq (.reg [Qa 6 5,
Qa 7 0,
Qh 8 7,
Qn 9 6 8])
 (.cond (.t 9)
 .skip
 (.exit 0)))
 (.seq (.block 1 (.seq (.reg [Qa 12 0,
Qa 13 5,
Qp 14 1 12 13,
Qd 15 14,
Qa 16 1,
sq 17 (.bin .eql (.t 15) (.t 16))])
 (.cond (.t 17)
 (.seq (.reg [Qf 4 true])
 .ret)
 .skip)))
 (.reg [Qa 10 5,
Qm 11 10 1,
Qa 5 11])))))))
 (.seq (.reg [Qf 4 false])
 .ret)))⟩
theorem F78_ok{x0 x1 r}(h:F78 x0 x1=some r):CallD Try.prog 78 [.c (dM (x0.map eS)),.c (dS x1)] [] (tupV [.c (dB r)]) []:=by
 rw[F78]at h
 refine zc a78 (by kernel_rfl) rfl (ww ?_)
 obtain⟨o1,ho,h⟩:=bi h
 refine cutS (fun s=>∃po1,o1=Sum.inr po1∧s=⟨[],[]⟩) ?_ ?_
 ·have h0o1:=h
  have h:=ho
  clear ho
  obtain⟨_,hk,h⟩:=bi h
  have hk:=ck_some hk
  refine ww ?_
  refine bL (fun j s=>∃(o1_0:Nat),(o1_0≤x0.length∧j=x0.length-o1_0)∧s=⟨[(0,oc (dM (x0.map eS))),(1,oc (dS x1)),(5,oc (dI ((o1_0:Int))))],[]⟩∧F78_l1 x1 (x0.drop o1_0) o1_0=some o1) (x0.length-0) [] ⟨0,⟨hk.1,rfl⟩,rfl,h⟩ ?_
  rintro _ _ ⟨o1_0,⟨hi,rfl⟩,rfl,h⟩
  refine ww ?_
  refine condS (fun c2=>?_) (fun c2=>?_)
  ·obtain⟨xo1,hxo1,hd⟩:=countY (show(o1_0:Int)<(x0.length:Int)from c2)
   rw[hd,F78_l1]at h
   refine ww ?_
   refine t_idxF (enc:=eS) (xs:=x0) rfl rfl hxo1 rfl (ww ?_)
   refine condSh h (fun c3 h=>ww ?_) (fun c3 h=>ww ?_)
   ·obtain⟨fh0o1,hfh0o1,rfl⟩:=Option.map_eq_some_iff.1 h
    have h:=hfh0o1.trans h0o1
    cases h
    exact eF []
   rw[wrapN (by omega)]
   exact eL' (x0.length-(o1_0+1)) [] ⟨o1_0+1,⟨by omega,rfl⟩,rfl,h⟩ (by omega)
  rw[countN (show¬((o1_0:Int)<(x0.length:Int))from c2),F78_l1]at h
  refine ww ?_
  cases h
  exact eM [] ⟨_,rfl,rfl⟩
 rintro _ ⟨po1,rfl,rfl⟩
 clear ho
 dsimp only at h
 refine ww ?_
 cases h
 exact eF []
def cF5kc:AC:=(.reg [sq 11 (.mv kN)])
def F5kc(l:List Budget)(pods:List Pod)(order:List Int)(ex:Int)(now:Int):Option (Unit):=some (())
theorem F5kc_ok{l pods order ex now r}(h:F5kc l pods order ex now=some r):sK Try.prog 169 0 cF5kc [] (sM 169 0 (fun s=>s=⟨[(0,oc (dM (l.map eBudget))),(1,oc (dM (pods.map ePod))),(2,oc (dM (order.map (eK .u8)))),(3,oc (dI ex)),(4,oc (dI now)),(11,oc (dN))],[]⟩) (xQ 169 0 (fun _ _=>False) (fun _=>False)))
 ⟨[(0,oc (dM (l.map eBudget))),(1,oc (dM (pods.map ePod))),(2,oc (dM (order.map (eK .u8)))),(3,oc (dI ex)),(4,oc (dI now))],[]⟩:=by
 rw[F5kc]at h
 simp only[cF5kc,VW.down,Nat.reduceEqDiff,reduceCtorEq,Nat.reduceAdd,Nat.reduceLeDiff,Nat.reduceLT,Nat.reduceBEq,Nat.reduceSub,EE.down]
 cases h
 exact eM [] rfl
def cF5kk:AC:=(.reg [Qa 85 11,
Qa 15 85])
def F5kk(pods:List Pod)(order:List Int)(now:Int)(fs:List Budget)(go:List D):Option (Unit):=some (())
theorem F5kk_ok{pods order now fs go r}(h:F5kk pods order now fs go=some r):sK Try.prog 169 0 cF5kk [] (sM 169 0 (fun s=>s=⟨[(1,oc (dM (pods.map ePod))),(2,oc (dM (order.map (eK .u8)))),(4,oc (dI now)),(11,oc (dM (fs.map eBudget))),(13,oc (.own 0 0 0 (go.length) none)),(15,oc (dM (fs.map eBudget)))],[some (.arr 0 1 (go.map eRaw))]⟩) (xQ 169 0 (fun _ _=>False) (fun _=>False)))
 ⟨[(1,oc (dM (pods.map ePod))),(2,oc (dM (order.map (eK .u8)))),(4,oc (dI now)),(11,oc (dM (fs.map eBudget))),(13,oc (.own 0 0 0 (go.length) none))],[some (.arr 0 1 (go.map eRaw))]⟩:=by
 rw[F5kk]at h
 simp only[cF5kk,VW.down,Nat.reduceEqDiff,reduceCtorEq,Nat.reduceAdd,Nat.reduceLeDiff,Nat.reduceLT,Nat.reduceBEq,Nat.reduceSub,EE.down]
 cases h
 exact eM [some 0] rfl
def cF5km:AC:=(.seq (.reg [Qa 86 16,
Qa 87 2,
Qh 88 87,
Qn 89 86 88])
 (.cond (.t 89)
 .skip
 (.exit 4)))
def F5km(pods:List Pod)(order:List Int)(now:Int)(fs:List Budget)(go:List D)(st:List Budget)(j:Int):Option ((Unit) ⊕ (Unit)):=(if j<(order.length:Int)then some (Sum.inl (()))else some (Sum.inr (())))
theorem F5km_ok{pods order now fs go st j r}(h:F5km pods order now fs go st j=some r):sK Try.prog 169 0 cF5km [] (sM 169 0 (fun s=>∃o0,r=Sum.inl o0∧s=⟨[(1,oc (dM (pods.map ePod))),(2,oc (dM (order.map (eK .u8)))),(4,oc (dI now)),(11,oc (dM (fs.map eBudget))),(13,oc (.own 0 0 0 (go.length) none)),(15,oc (dM (st.map eBudget))),(16,oc (dI j))],[some (.arr 0 1 (go.map eRaw))]⟩) (xQ 169 0 (fun xi s=>xi=4∧∃o1,r=Sum.inr (o1)∧s=⟨[(1,oc (dM (pods.map ePod))),(11,oc (dM (fs.map eBudget))),(13,oc (.own 0 0 0 (go.length) none))],[some (.arr 0 1 (go.map eRaw))]⟩) (fun _=>False)))
 ⟨[(1,oc (dM (pods.map ePod))),(2,oc (dM (order.map (eK .u8)))),(4,oc (dI now)),(11,oc (dM (fs.map eBudget))),(13,oc (.own 0 0 0 (go.length) none)),(15,oc (dM (st.map eBudget))),(16,oc (dI j))],[some (.arr 0 1 (go.map eRaw))]⟩:=by
 rw[F5km]at h
 simp only[cF5km,VW.down,Nat.reduceEqDiff,reduceCtorEq,Nat.reduceAdd,Nat.reduceLeDiff,Nat.reduceLT,Nat.reduceBEq,Nat.reduceSub,EE.down]
 refine condSh h (fun c1 h=>ww ?_) (fun c1 h=>?_)
 ·cases h
  exact eM [some 0] ⟨_,rfl,rfl⟩
 ·refine ww ?_
  cases h
  exact eX [some 0] ⟨rfl,_,rfl,rfl⟩
def cF5kp:AC:=(.seq (.reg [Qa 113 19,
sq 114 (.bin .neq (.t 113) (kI 0))])
 (.cond (.t 114)
 (.exit 5)
 .skip))
def F5kp(pods:List Pod)(order:List Int)(now:Int)(fs:List Budget)(go:List D)(st:List Budget)(j:Int)(key:ByteArray)(nx:List Budget)(er:Int):Option ((Unit) ⊕ (Unit)):=(if¬(er=0)then some (Sum.inl (()))else some (Sum.inr (())))
theorem F5kp_ok{pods order now fs go st j key nx er r}(h:F5kp pods order now fs go st j key nx er=some r):sK Try.prog 169 0 cF5kp [] (sM 169 0 (fun s=>∃o1,r=Sum.inr (o1)∧s=⟨[(1,oc (dM (pods.map ePod))),(2,oc (dM (order.map (eK .u8)))),(4,oc (dI now)),(11,oc (dM (fs.map eBudget))),(13,oc (.own 0 0 0 (go.length) none)),(15,oc (dM (st.map eBudget))),(16,oc (dI j)),(17,oc (dS key)),(18,oc (dM (nx.map eBudget)))],[some (.arr 0 1 (go.map eRaw))]⟩) (xQ 169 0 (fun xi s=>xi=5∧∃o0,r=Sum.inl o0∧s=⟨[(1,oc (dM (pods.map ePod))),(2,oc (dM (order.map (eK .u8)))),(4,oc (dI now)),(11,oc (dM (fs.map eBudget))),(13,oc (.own 0 0 0 (go.length) none)),(15,oc (dM (st.map eBudget))),(16,oc (dI j))],[some (.arr 0 1 (go.map eRaw))]⟩) (fun _=>False)))
 ⟨[(1,oc (dM (pods.map ePod))),(2,oc (dM (order.map (eK .u8)))),(4,oc (dI now)),(11,oc (dM (fs.map eBudget))),(13,oc (.own 0 0 0 (go.length) none)),(15,oc (dM (st.map eBudget))),(16,oc (dI j)),(17,oc (dS key)),(18,oc (dM (nx.map eBudget))),(19,oc (dI er))],[some (.arr 0 1 (go.map eRaw))]⟩:=by
 rw[F5kp]at h
 simp only[cF5kp,VW.down,Nat.reduceEqDiff,reduceCtorEq,Nat.reduceAdd,Nat.reduceLeDiff,Nat.reduceLT,Nat.reduceBEq,Nat.reduceSub,EE.down]
 refine condSh h (fun c1 h=>ww ?_) (fun c1 h=>?_)
 ·cases h
  exact eX [some 0] ⟨rfl,_,rfl,rfl⟩
 ·refine ww ?_
  cases h
  exact eM [some 0] ⟨_,rfl,rfl⟩
def cF5kq:AC:=(.reg [Qa 115 18,
Qa 15 115])
def F5kq(pods:List Pod)(order:List Int)(now:Int)(fs:List Budget)(go:List D)(st:List Budget)(j:Int)(key:ByteArray)(nx:List Budget):Option (Unit):=some (())
theorem F5kq_ok{pods order now fs go st j key nx r}(h:F5kq pods order now fs go st j key nx=some r):sK Try.prog 169 0 cF5kq [] (sM 169 0 (fun s=>s=⟨[(1,oc (dM (pods.map ePod))),(2,oc (dM (order.map (eK .u8)))),(4,oc (dI now)),(11,oc (dM (fs.map eBudget))),(13,oc (.own 0 0 0 (go.length) none)),(15,oc (dM (nx.map eBudget))),(16,oc (dI j)),(17,oc (dS key))],[some (.arr 0 1 (go.map eRaw))]⟩) (xQ 169 0 (fun _ _=>False) (fun _=>False)))
 ⟨[(1,oc (dM (pods.map ePod))),(2,oc (dM (order.map (eK .u8)))),(4,oc (dI now)),(11,oc (dM (fs.map eBudget))),(13,oc (.own 0 0 0 (go.length) none)),(15,oc (dM (st.map eBudget))),(16,oc (dI j)),(17,oc (dS key)),(18,oc (dM (nx.map eBudget)))],[some (.arr 0 1 (go.map eRaw))]⟩:=by
 rw[F5kq]at h
 simp only[cF5kq,VW.down,Nat.reduceEqDiff,reduceCtorEq,Nat.reduceAdd,Nat.reduceLeDiff,Nat.reduceLT,Nat.reduceBEq,Nat.reduceSub,EE.down]
 cases h
 exact eM [some 0] rfl
def cF5kr:AC:=(.reg [Qe 20 0])
def F5kr(pods:List Pod)(order:List Int)(now:Int)(fs:List Budget)(go:List D)(st:List Budget)(j:Int)(key:ByteArray):Option (Unit):=some (())
theorem F5kr_ok{pods order now fs go st j key r}(h:F5kr pods order now fs go st j key=some r):sK Try.prog 169 0 cF5kr [] (sM 169 0 (fun s=>s=⟨[(1,oc (dM (pods.map ePod))),(2,oc (dM (order.map (eK .u8)))),(4,oc (dI now)),(11,oc (dM (fs.map eBudget))),(13,oc (.own 0 0 0 (go.length) none)),(15,oc (dM (st.map eBudget))),(16,oc (dI j)),(17,oc (dS key)),(20,oc (dI 0))],[some (.arr 0 1 (go.map eRaw))]⟩) (xQ 169 0 (fun _ _=>False) (fun _=>False)))
 ⟨[(1,oc (dM (pods.map ePod))),(2,oc (dM (order.map (eK .u8)))),(4,oc (dI now)),(11,oc (dM (fs.map eBudget))),(13,oc (.own 0 0 0 (go.length) none)),(15,oc (dM (st.map eBudget))),(16,oc (dI j)),(17,oc (dS key))],[some (.arr 0 1 (go.map eRaw))]⟩:=by
 rw[F5kr]at h
 simp only[cF5kr,VW.down,Nat.reduceEqDiff,reduceCtorEq,Nat.reduceAdd,Nat.reduceLeDiff,Nat.reduceLT,Nat.reduceBEq,Nat.reduceSub,EE.down]
 cases h
 exact eM [some 0] rfl
def cF5ku:AC:=(.reg [Qa 128 17,
sq 129 (.build [dS ⟨#[]⟩,dI 0] [(0,1,(.t 128))]),
sq 130 (.bslice 2 [(.t 129)]),
sq 131 (.app 2 24 (.t 127) (.t 130))])
def F5ku(pods:List Pod)(order:List Int)(now:Int)(fs:List Budget)(go:List D)(st:List Budget)(j:Int)(key:ByteArray)(k:Int)(ws:List WorkItem):Option ((List WorkItem)):=(apI ws ([(⟨key,0⟩:WorkItem)])).bind fun a1=>some a1
theorem F5ku_ok{pods order now fs go st j key k ws r}(h:F5ku pods order now fs go st j key k ws=some r):sK Try.prog 169 0 cF5ku [] (sM 169 0 (fun s=>s=⟨[(1,oc (dM (pods.map ePod))),(2,oc (dM (order.map (eK .u8)))),(4,oc (dI now)),(11,oc (dM (fs.map eBudget))),(13,oc (.own 0 0 0 (go.length) none)),(15,oc (dM (st.map eBudget))),(16,oc (dI j)),(17,oc (dS key)),(20,oc (dI k)),(122,oc (.own 0 0 0 (go.length) none)),(123,oc (dI k)),(131,oc (.own 1 0 0 (r.length) none))],[some (.arr 0 1 (go.map eRaw)),some (.arr 0 2 (r.map eWorkItem))]⟩) (xQ 169 0 (fun _ _=>False) (fun _=>False)))
 ⟨[(1,oc (dM (pods.map ePod))),(2,oc (dM (order.map (eK .u8)))),(4,oc (dI now)),(11,oc (dM (fs.map eBudget))),(13,oc (.own 0 0 0 (go.length) none)),(15,oc (dM (st.map eBudget))),(16,oc (dI j)),(17,oc (dS key)),(20,oc (dI k)),(122,oc (.own 0 0 0 (go.length) none)),(123,oc (dI k)),(127,oc (.own 1 0 0 (ws.length) none))],[some (.arr 0 1 (go.map eRaw)),some (.arr 0 2 (ws.map eWorkItem))]⟩:=by
 rw[F5ku]at h
 simp only[cF5ku,VW.down,Nat.reduceEqDiff,reduceCtorEq,Nat.reduceAdd,Nat.reduceLeDiff,Nat.reduceLT,Nat.reduceBEq,Nat.reduceSub,EE.down]
 refine t_bslice (enc:=eWorkItem) (ys:=[(⟨key,0⟩:WorkItem)]) rfl rfl (by simp[A1.cells]) (by first|rfl|(simp only[List.drop_zero,take_mapL];rfl)|(simp only[lit,List.map_cons,List.map_nil,List.drop_zero,take_mapL,EE.down];done)|(simp only[lit,List.map_cons,List.map_nil,List.drop_zero,take_mapL,EE.down];rfl)) (ww ?_)
 obtain⟨a1,ha1,h⟩:=bi h
 refine t_app (enc:=eWorkItem) (xs:=ws) rfl rfl (by first|rfl|simp only[List.length_set]|exact(clrL_len (slI_len (by assumption))).symm) rfl (rows_full (enc:=eWorkItem) (by first|rfl|simp only[List.length_set]|exact(clrL_len (slI_len (by assumption))).symm) rfl) ha1 (ww ?_)
 cases h
 exact eM [some 0,some 1] rfl
end Go.Proofs.Ytedgocbpegllaaa
