/- Each Go function as a function over typed data, and its walk. -/
import Derived.Test.YtedgocbpegllaaaW0
import Derived.Test.YtedgocbpegllaaaW1
import Derived.Test.YtedgocbpegllaaaW3
namespace Go.Proofs.Ytedgocbpegllaaa
open Go Go.Fw Go.Shelf
set_option maxRecDepth 100000
set_option maxHeartbeats 4000000
set_option linter.unusedSimpArgs false
set_option linter.unusedVariables false
def cF14b2:AC:=(.reg [Qa 28 10,
Qa 29 11,
Qc 30 22 12,
Qk 31 24 30,
Qp 32 22 28 29])
def F14b2(l:List Budget)(pods:List Pod)(key:ByteArray)(now:Int)(cs:List RBud)(n:Int)(i:Int)(b:Budget):Option ((List Label)×(List Owner)×(List ByteArray)×(List Manager)×(List Requirement)×(List Amount)×(List Amount)×(List WorkItem)):=(F24 b).bind fun t1=>(rdI cs i).bind fun y2=>some ((t1.1,t1.2.1,t1.2.2.1,t1.2.2.2.1,t1.2.2.2.2.1,t1.2.2.2.2.2.1,t1.2.2.2.2.2.2.1,t1.2.2.2.2.2.2.2))
theorem F14b2_ok{l pods key now cs n i b r}(h:F14b2 l pods key now cs n i b=some r):sK Try.prog 118 0 cF14b2 [] (sM 118 0 (fun s=>s=⟨[(0,oc (dM (l.map eBudget))),(1,oc (dM (pods.map ePod))),(3,oc (dI now)),(6,Pz 0),(10,oc (.own 1 0 0 (cs.length) none)),(21,oc (.own 1 0 0 (cs.length) none)),(22,oc (dI n)),(23,oc (dI i)),(31,.one (.agg [dS b.Meta.Kind,dS b.Meta.Namespace,dS b.Meta.Name,dI b.Meta.Uid,dI b.Meta.Version,dI b.Meta.Generation,dI b.Meta.Created,dB b.Meta.Deleting,dI b.Meta.DeleteAt,dM (r.1.map eLabel),dM (r.2.1.map eOwner),dM (r.2.2.1.map eS),dM (r.2.2.2.1.map eManager),dM (r.2.2.2.2.1.map eRequirement),dM (r.2.2.2.2.2.1.map eAmount),dM (r.2.2.2.2.2.2.1.map eAmount),dI b.Observed,dI b.Healthy,dI b.Desired,dI b.Expected,dI b.Allowed,.own 2 0 0 (r.2.2.2.2.2.2.2.length) none])),(32,oc (.pe 1 0 i.toNat 0))],[xb [dS key],some (.arr 0 22 (cs.map eRBud)),some (.arr 0 2 (r.2.2.2.2.2.2.2.map eWorkItem))]⟩) (xQ 118 0 (fun _ _=>False) (fun _=>False)))
 ⟨[(0,oc (dM (l.map eBudget))),(1,oc (dM (pods.map ePod))),(3,oc (dI now)),(6,Pz 0),(10,oc (.own 1 0 0 (cs.length) none)),(11,oc (dI i)),(12,Pz 2),(21,oc (.own 1 0 0 (cs.length) none)),(22,oc (dI n)),(23,oc (dI i))],[xb [dS key],some (.arr 0 22 (cs.map eRBud)),xb (bBudget b)]⟩:=by
 rw[F14b2]at h
 simp only[cF14b2,VW.down,Nat.reduceEqDiff,reduceCtorEq,Nat.reduceAdd,Nat.reduceLeDiff,Nat.reduceLT,Nat.reduceBEq,Nat.reduceSub,EE.down]
 obtain⟨t1,ht1,h⟩:=bi h
 refine cN [] (F24_ok ht1) trivial (ww ?_)
 obtain⟨y2,hy2,h⟩:=bi h
 refine t_idxO (enc:=eRBud) (xs:=cs) rfl rfl rfl (by first|rfl|simp only[List.length_set]|exact(clrL_len (slI_len (by assumption))).symm) hy2 (ww ?_)
 cases h
 exact eM [some 0,some 1,some 10] rfl (hB:=by simp only[ZZ.down,Nat.reduceEqDiff,reduceCtorEq,Nat.reduceAdd,Nat.reduceLeDiff,Nat.reduceLT,Nat.reduceBNe,EE.down,peLt hy2]) (hs:=by simp only[ZZ.down,Nat.reduceEqDiff,reduceCtorEq,Nat.reduceAdd,Nat.reduceLeDiff,Nat.reduceLT,Nat.reduceBNe,EE.down,peLt hy2])
def F41(x0:Pod)(b0:ByteArray):Option (Bool):=(F26 x0.Meta).bind fun t1=>some (decide (t1=b0))
def a41:AFn:=⟨9,[(.tmp 3)],
 (.seq (.reg [Qg 2 0,
Qf 3 false])
 (.seq (.regd [Qb 4 0 2,
sd 5 (.load (some 13) (.t 4)) [0],
zn 6 (.call 26 [(.t 5)]) [0,1] [0,1],
Qd 7 1,
sd 8 (.bin .eql (.t 6) (.t 7)) [0,1,2,3],
sd 3 (.mv (.t 8)) [0,1,2,3,4]])
 .ret))⟩
theorem F41_ok{x0 b0 r}(h:F41 x0 b0=some r):CallD Try.prog 41 [.agg (bPod x0),.c (.pt 0 0)] [xb [dS b0]] (tupV [.c (dB r)]) [xb [dS b0]]:=by
 rw[F41]at h
 refine zc a41 (by kernel_rfl) rfl (ww ?_)
 obtain⟨t1,ht1,h⟩:=bi h
 refine cN [] (F26_ok ht1) trivial (ww ?_)
 cases h
 exact eF [some 0]
def F40_l1(b0:ByteArray):List Pod→Nat→Option ((Int) ⊕ (Unit))
 |[],o1_0=>some (Sum.inr (()))
 |xo1::xs,o1_0=>(F41 xo1 b0).bind fun t3=>(if t3=true then(some ((o1_0:Int))).map Sum.inl else F40_l1 b0 xs (o1_0+1))
def F40(x0:(List Pod))(b0:ByteArray):Option (Int):=(((ck (0≤x0.length∧x0.length≤4294967290)).bind fun u5=>F40_l1 b0 x0 0:Option ((Int) ⊕ (Unit))).bind fun o1=>match o1 with|Sum.inl f=>some f|Sum.inr po1=>some ((-1)))
def a40:AFn:=⟨19,[(.tmp 4)],
 (.seq (.reg [Qe 4 0])
 (.seq (.seq (.reg [Qa 6 0,
Qh 7 6,
Qe 8 0])
 (.sem (.block 0 (.loop (.seq (.reg [Qn 9 8 7])
 (.seq (.cond (.t 9)
 .skip
 (.exit 0))
 (.seq (.block 1 (.seq (.reg [Qa 10 8,
Qa 5 10])
 (.seq (.reg [Qa 11 1,
Qa 12 0,
Qa 13 5,
Qp 14 32 12 13,
Qc 15 32 14,
zl 16 (.callv (.t 11) [(.t 15)]) [] [12,14]])
 (.cond (.t 16)
 (.seq (.reg [Qa 17 5,
Qa 4 17])
 .ret)
 .skip))))
 (.reg [Qm 18 8 1,
Qa 8 18]))))))))
 (.seq (.reg [sq 4 (.mv (kI (-1)))])
 .ret)))⟩
theorem F40_ok{x0 b0 r}(h:F40 x0 b0=some r):CallD Try.prog 40 [.c (dM (x0.map ePod)),.c (.fn 41 [(0,0)])] [xb [dS b0]] (tupV [.c (dI r)]) [xb [dS b0]]:=by
 rw[F40]at h
 refine zc a40 (by kernel_rfl) rfl (ww ?_)
 obtain⟨o1,ho,h⟩:=bi h
 refine cutS (fun s=>∃po1,o1=Sum.inr po1∧s=⟨[],[xb [dS b0]]⟩) ?_ ?_
 ·have h0o1:=h
  have h:=ho
  clear ho
  obtain⟨_,hk,h⟩:=bi h
  have hk:=ck_some hk
  refine ww ?_
  refine bL (fun j s=>∃(o1_0:Nat),(o1_0≤x0.length∧j=x0.length-o1_0)∧s=⟨[(0,oc (dM (x0.map ePod))),(1,oc (.fn 41 [(0,0)])),(7,oc (dI ((x0.length:Int)))),(8,oc (dI ((o1_0:Int))))],[xb [dS b0]]⟩∧F40_l1 b0 (x0.drop o1_0) o1_0=some o1) (x0.length-0) [some 0] ⟨0,⟨hk.1,rfl⟩,rfl,h⟩ ?_
  rintro _ _ ⟨o1_0,⟨hi,rfl⟩,rfl,h⟩
  refine ww ?_
  refine condS (fun c2=>?_) (fun c2=>?_)
  ·obtain⟨xo1,hxo1,hd⟩:=countY (show(o1_0:Int)<(x0.length:Int)from c2)
   rw[hd,F40_l1]at h
   refine ww ?_
   refine t_idxF (enc:=ePod) (xs:=x0) rfl rfl hxo1 rfl (ww ?_)
   obtain⟨t3,ht3,h⟩:=bi h
   refine cN [0] (F41_ok ht3) ⟨⟨rfl,by simp[Blk.live,C.live,hp]⟩,trivial⟩ ?_
   refine ww ?_
   refine condBh h (fun c4 h=>ww ?_) (fun c4 h=>ww ?_)
   ·obtain⟨fh0o1,hfh0o1,rfl⟩:=Option.map_eq_some_iff.1 h
    have h:=hfh0o1.trans h0o1
    cases h
    exact eF [some 0]
   rw[wrapN (by omega)]
   exact eL' (x0.length-(o1_0+1)) [some 0] ⟨o1_0+1,⟨by omega,rfl⟩,rfl,h⟩ (by omega)
  rw[countN (show¬((o1_0:Int)<(x0.length:Int))from c2),F40_l1]at h
  refine ww ?_
  cases h
  exact eM [some 0] ⟨_,rfl,rfl⟩
 rintro _ ⟨po1,rfl,rfl⟩
 clear ho
 dsimp only at h
 refine ww ?_
 cases h
 exact eF [some 0]
def cF14m1:AC:=(.reg [Qa 34 1,
sq 35 (.fn 41 [(.t 6)]),
Ql 36 40 34 35,
Qa 13 36])
def F14m1(l:List Budget)(pods:List Pod)(key:ByteArray)(now:Int)(cs:List RBud)(n:Int)(i:Int)(c:Bool):Option (Int):=(F40 pods key).bind fun t1=>some t1
theorem F14m1_ok{l pods key now cs n i c r}(h:F14m1 l pods key now cs n i c=some r):sK Try.prog 118 0 cF14m1 [] (sM 118 0 (fun s=>s=⟨[(0,oc (dM (l.map eBudget))),(1,oc (dM (pods.map ePod))),(3,oc (dI now)),(6,Pz 0),(10,oc (.own 1 0 0 (cs.length) none)),(13,oc (dI r))],[xb [dS key],some (.arr 0 22 (cs.map eRBud))]⟩) (xQ 118 0 (fun _ _=>False) (fun _=>False)))
 ⟨[(0,oc (dM (l.map eBudget))),(1,oc (dM (pods.map ePod))),(3,oc (dI now)),(6,Pz 0),(10,oc (.own 1 0 0 (cs.length) none)),(21,oc (.own 1 0 0 (cs.length) none)),(22,oc (dI n)),(23,oc (dI i)),(24,oc (dB c))],[xb [dS key],some (.arr 0 22 (cs.map eRBud))]⟩:=by
 rw[F14m1]at h
 simp only[cF14m1,VW.down,Nat.reduceEqDiff,reduceCtorEq,Nat.reduceAdd,Nat.reduceLeDiff,Nat.reduceLT,Nat.reduceBEq,Nat.reduceSub,EE.down]
 obtain⟨t1,ht1,h⟩:=bi h
 refine cN [0] (F40_ok ht1) ⟨⟨rfl,by simp[Blk.live,C.live,hp]⟩,trivial⟩ ?_
 refine ww ?_
 cases h
 exact eM [some 0,some 1] rfl
def F45(x0:ByteArray)(x1:ByteArray):Option (Int):=(F66 x0 x1).bind fun t1=>some t1
def a45:AFn:=⟨8,[(.tmp 4)],
 (.seq (.reg [Qe 4 0])
 (.seq (.reg [Qa 5 0,
Qa 6 1,
Ql 7 66 5 6,
Qa 4 7])
 .ret))⟩
theorem F45_ok{x0 x1 r}(h:F45 x0 x1=some r):CallD Try.prog 45 [.c (dS x0),.c (dS x1)] [] (tupV [.c (dI r)]) []:=by
 rw[F45]at h
 refine zc a45 (by kernel_rfl) rfl (ww ?_)
 obtain⟨t1,ht1,h⟩:=bi h
 refine cN [] (F66_ok ht1) trivial (ww ?_)
 cases h
 exact eF []
def F44(x0:WorkItem)(x1:WorkItem):Option (Int):=(F45 x0.Key x1.Key).bind fun t1=>some t1
def a44:AFn:=⟨10,[(.tmp 4)],
 (.seq (.reg [Qg 2 0,
Qg 3 1,
Qe 4 0])
 (.seq (.reg [Qb 5 0 2,
Qd 6 5,
Qb 7 0 3,
Qd 8 7,
Ql 9 45 6 8,
Qa 4 9])
 .ret))⟩
theorem F44_ok{x0 x1 r}(h:F44 x0 x1=some r):CallD Try.prog 44 [.agg [dS x0.Key,dI x0.At],.agg [dS x1.Key,dI x1.At]] [] (tupV [.c (dI r)]) []:=by
 rw[F44]at h
 refine zc a44 (by kernel_rfl) rfl (ww ?_)
 obtain⟨t1,ht1,h⟩:=bi h
 refine cN [] (F45_ok ht1) trivial (ww ?_)
 cases h
 exact eF []
def F43_l1(x0:(List WorkItem))(x1:WorkItem):Nat→Int→Int→Option (Int)
 |0,_,_=>none
 |k+1,o1_0,o1_1=>(if o1_0<o1_1 then(rdI x0 ((IntKind.i64.wrap ((shrV .u64 ((IntKind.u64.wrap ((IntKind.i64.wrap (o1_0+o1_1))))) 1))))).bind fun y3=>(F44 y3 x1).bind fun t4=>(if t4<0 then F43_l1 x0 x1 k ((IntKind.i64.wrap (((IntKind.i64.wrap ((shrV .u64 ((IntKind.u64.wrap ((IntKind.i64.wrap (o1_0+o1_1))))) 1))))+1))) o1_1 else F43_l1 x0 x1 k o1_0 ((IntKind.i64.wrap ((shrV .u64 ((IntKind.u64.wrap ((IntKind.i64.wrap (o1_0+o1_1))))) 1)))))else some o1_0)
def F43(x0:(List WorkItem))(x1:WorkItem):Option (Int×Bool):=((F43_l1 x0 x1 1099511627776 0 ((x0.length:Int))).bind fun o1=>(((if o1<(x0.length:Int)then(rdI x0 o1).bind fun y8=>(F44 y8 x1).bind fun t9=>some (decide (t9=0))else some false)).bind fun o6=>some ((o1,o6))))
def a43:AFn:=⟨49,[(.tmp 6),(.tmp 7)],
 (.seq (.reg [Qg 4 1,
Qe 6 0,
Qf 7 false])
 (.seq (.reg [Qa 12 0,
Qh 13 12,
Qa 8 13])
 (.seq (.reg [Qa 14 8,
Qe 9 0,
Qa 10 14])
 (.seq (.sem (.block 0 (.loop (.seq (.seq (.reg [Qa 15 9,
Qa 16 10,
Qn 17 15 16])
 (.cond (.t 17)
 .skip
 (.exit 0)))
 (.block 1 (.seq (.reg [Qa 18 9,
Qa 19 10,
sq 20 (.bin .add (.t 18) (.t 19)),
sq 21 (.conv .u64 (.t 20)),
sq 22 (.bin .shr (.t 21) (.k (.c (.d (.v (.int .u64 1)))))),
sq 23 (.conv .i64 (.t 22)),
Qa 11 23])
 (.seq (.regd [Qa 24 2,
Qa 25 0,
Qa 26 11,
sd 27 (.indexA 2 (.t 25) (.t 26)) [1,2],
sd 28 (.load (some 2) (.t 27)) [1,2,3],
Qc 29 2 4,
zl 30 (.callv (.t 24) [(.t 28),(.t 29)]) [0,1,2,3,4,5] [],
sd 31 (.bin .lss (.t 30) (kI 0)) [0,1,2,3,4,5,6]])
 (.cond (.t 31)
 (.reg [Qa 32 11,
Qm 33 32 1,
Qa 9 33])
 (.reg [Qa 34 11,
Qa 10 34])))))))))
 (.seq (.sem (.regd [Qa 35 9,
Qa 36 9,
Qa 37 8,
sd 38 (.bin .lss (.t 36) (.t 37)) [1,2],
sd 39 (.mv (.t 38)) [1,2,3],
⟨(some 40),(some (39,true)),.mv (.t 2),[1,2,3,4],(.new [])⟩,
⟨(some 41),(some (39,true)),.mv (.t 0),[1,2,3,4],(.new [])⟩,
⟨(some 42),(some (39,true)),.mv (.t 9),[1,2,3,4],(.new [])⟩,
⟨(some 43),(some (39,true)),.indexA 2 (.t 41) (.t 42),[1,2,3,4,6,7],(.new [])⟩,
⟨(some 44),(some (39,true)),.load (some 2) (.t 43),[1,2,3,4,6,7,8],(.new [])⟩,
⟨(some 45),(some (39,true)),.load (some 2) (.t 4),[1,2,3,4],(.new [])⟩,
⟨(some 46),(some (39,true)),.callv (.t 40) [(.t 44),(.t 45)],[1,2,3,4,5,6,7,8,9,10],(.lone [])⟩,
⟨(some 47),(some (39,true)),.bin .eql (.t 46) (kI 0),[1,2,3,4,5,6,7,8,9,10,11],(.new [])⟩,
sd 48 (.pick (.t 39) (.t 47) (kB false)) [1,2,3,4,5,6,7,8,9,10,11,12],
sd 6 (.mv (.t 35)) [0,1,2,3,4,5,6,7,8,9,10,11],
sd 7 (.mv (.t 48)) [0,1,2,3,4,5,6,7,8,9,10,11,12,13,14]]))
 .ret)))))⟩
theorem F43_ok{x0 x1 r}(h:F43 x0 x1=some r):CallD Try.prog 43 [.c (dM (x0.map eWorkItem)),.agg [dS x1.Key,dI x1.At],.c (.fn 44 [])] [] (tupV [.c (dI r.1),.c (dB r.2)]) []:=by
 rw[F43]at h
 refine zc a43 (by kernel_rfl) rfl (ww ?_)
 obtain⟨o1,ho,h⟩:=bi h
 refine cutS (fun s=>s=⟨[(0,oc (dM (x0.map eWorkItem))),(2,oc (.fn 44 [])),(4,Pz 0),(8,oc (dI ((x0.length:Int)))),(9,oc (dI o1))],[xb [dS x1.Key,dI x1.At]]⟩) ?_ ?_
 ·have h:=ho
  clear ho
  refine ww ?_
  refine bL (fun j s=>∃(o1_0:Int) (o1_1:Int),s=⟨[(0,oc (dM (x0.map eWorkItem))),(2,oc (.fn 44 [])),(4,Pz 0),(8,oc (dI ((x0.length:Int)))),(9,oc (dI o1_0)),(10,oc (dI o1_1))],[xb [dS x1.Key,dI x1.At]]⟩∧F43_l1 x0 x1 j o1_0 o1_1=some o1) 1099511627776 [some 0] ⟨0,(x0.length:Int),rfl,h⟩ ?_
  rintro j _ ⟨o1_0,o1_1,rfl,h⟩
  cases j with
  |zero=>cases(show(none:Option _)=some _ from h)
  |succ j=>
   rw[F43_l1]at h
   refine ww ?_
   refine condSh h (fun c2 h=>ww ?_) (fun c2 h=>?_)
   ·refine⟨by decide,?_⟩
    refine ww ?_
    obtain⟨y3,hy3,h⟩:=bi h
    refine t_idxF (enc:=eWorkItem) (xs:=x0) rfl rfl hy3 rfl (ww ?_)
    obtain⟨t4,ht4,h⟩:=bi h
    refine cN [] (F44_ok ht4) trivial (ww ?_)
    refine condSh h (fun c5 h=>ww ?_) (fun c5 h=>?_)
    ·exact eL' j [some 0] ⟨(IntKind.i64.wrap (((IntKind.i64.wrap ((shrV .u64 ((IntKind.u64.wrap ((IntKind.i64.wrap (o1_0+o1_1))))) 1))))+1)),o1_1,rfl,h⟩ (Nat.lt_succ_self _)
    ·refine ww ?_
     exact eL' j [some 0] ⟨o1_0,(IntKind.i64.wrap ((shrV .u64 ((IntKind.u64.wrap ((IntKind.i64.wrap (o1_0+o1_1))))) 1))),rfl,h⟩ (Nat.lt_succ_self _)
   ·refine ww ?_
    cases h
    exact eM [some 0] rfl
 rintro _ rfl
 clear ho
 refine ww ?_
 obtain⟨o6,ho,h⟩:=bi h
 refine cutS (fun s=>s=⟨[(6,oc (dI o1)),(7,oc (dB o6))],[]⟩) ?_ ?_
 ·have h:=ho
  clear ho
  refine ww ?_
  refine guardDh h (fun g7 h=>ww ?_) (fun g7 h=>ww ?_)
  ·obtain⟨y8,hy8,h⟩:=bi h
   refine t_idxF (enc:=eWorkItem) (xs:=x0) rfl rfl hy8 rfl (ww ?_)
   obtain⟨t9,ht9,h⟩:=bi h
   refine cN [] (F44_ok ht9) trivial (ww ?_)
   cases h
   exact eM [] rfl
  cases h
  exact eM [] rfl
 rintro _ rfl
 clear ho
 refine ww ?_
 cases h
 exact eF []
def cF14c4:AC:=(.seq (.reg [Qb 90 20 16,
Qd 91 90,
sq 92 (.bin .sub (.t 91) (kI 1)),
Qb 93 20 16,
⟨none,none,.store 1 (.t 93) (.t 92),[],(.lone [16,90,16])⟩])
 (.seq (.reg [Qb 94 17 16,
Qd 95 94,
sq 96 (.bin .sub (.t 95) (kI 1)),
Qb 97 17 16,
⟨none,none,.store 1 (.t 97) (.t 96),[],(.lone [16,94,16])⟩])
 (.seq (.reg [Qb 99 21 16,
Qd 100 99,
Qc 101 2 14,
sq 102 (.call 43 [(.t 100),(.t 101),(.f 44)]),
Qa 98 102,
Qo 103 98 0,
Qo 104 98 1,
Qa 17 103,
Qa 18 104])
 (.seq (.reg [Qb 105 21 16,
Qd 106 105,
Qa 107 17,
Qc 108 2 14,
sq 109 (.bslice 2 [(.t 108)]),
sq 110 (.call 46 [(.t 106),(.t 107),(.t 109)]),
Qb 111 21 16,
su (.store 1 (.t 111) (.t 110))])
 (.reg [Qa 112 10,
Qa 113 15,
Qc 114 22 16,
Qp 115 22 112 113,
⟨none,none,.store 22 (.t 115) (.t 114),[],(.lone [16,112])⟩])))))
def F14c4(pods:List Pod)(key:ByteArray)(cs:List RBud)(at_:Int)(item:WorkItem)(n:Int)(i:Int)(b:Budget)(ws:List WorkItem):Option ((List RBud)):=(F43 ws item).bind fun t1=>(insI ws t1.1 item).bind fun t2=>(rdI cs i).bind fun y3=>some ((cs.set i.toNat ((⟨b.Meta,b.Selector,b.MinAvailable,b.MaxUnavailable,b.Observed,(IntKind.i64.wrap (b.Healthy-1)),b.Desired,b.Expected,(IntKind.i64.wrap (b.Allowed-1)),(D.sl (t2.map eWorkItem))⟩:RBud))))
theorem F14c4_ok{pods key cs at_ item n i b ws r}(h:F14c4 pods key cs at_ item n i b ws=some r):sK Try.prog 118 0 cF14c4 [] (sM 118 0 (fun s=>s=⟨[(1,oc (dM (pods.map ePod))),(6,Pz 0),(10,oc (.own 1 0 0 (r.length) none)),(13,oc (dI at_)),(14,Pz 2),(71,oc (.own 1 0 0 (r.length) none)),(72,oc (dI n)),(73,oc (dI i))],[xb [dS key],some (.arr 0 22 (r.map eRBud)),xb [dS item.Key,dI item.At]]⟩) (xQ 118 0 (fun _ _=>False) (fun _=>False)))
 ⟨[(1,oc (dM (pods.map ePod))),(6,Pz 0),(10,oc (.own 1 0 0 (cs.length) none)),(13,oc (dI at_)),(14,Pz 2),(15,oc (dI i)),(16,Pz 3),(71,oc (.own 1 0 0 (cs.length) none)),(72,oc (dI n)),(73,oc (dI i))],[xb [dS key],some (.arr 0 22 (cs.map eRBud)),xb [dS item.Key,dI item.At],xb [dS b.Meta.Kind,dS b.Meta.Namespace,dS b.Meta.Name,dI b.Meta.Uid,dI b.Meta.Version,dI b.Meta.Generation,dI b.Meta.Created,dB b.Meta.Deleting,dI b.Meta.DeleteAt,dM (b.Meta.Labels.map eLabel),dM (b.Meta.Owners.map eOwner),dM (b.Meta.Finalizers.map eS),dM (b.Meta.Managers.map eManager),dM (b.Selector.map eRequirement),dM (b.MinAvailable.map eAmount),dM (b.MaxUnavailable.map eAmount),dI b.Observed,dI b.Healthy,dI b.Desired,dI b.Expected,dI b.Allowed,.own 4 0 0 (ws.length) none],some (.arr 0 2 (ws.map eWorkItem))]⟩:=by
 rw[F14c4]at h
 simp only[cF14c4,VW.down,Nat.reduceEqDiff,reduceCtorEq,Nat.reduceAdd,Nat.reduceLeDiff,Nat.reduceLT,Nat.reduceBEq,Nat.reduceSub,EE.down]
 obtain⟨t1,ht1,h⟩:=bi h
 refine callX_bor (F43_ok ht1) (by simp only[borAs,bors,hp,List.getElem?_cons_zero,List.getElem?_cons_succ,Option.join_some,List.drop_zero,bor_full',true_and,Nat.zero_add,List.length_map,Nat.le_refl,nrm,List.length_cons,List.length_nil,Nat.reduceAdd,Nat.reduceLeDiff,List.take_succ_cons,List.take_zero,List.take_nil,List.map_cons,List.map_nil,List.length_set,EE.down]) rfl ?_
 refine ww ?_
 refine t_bslice (enc:=eWorkItem) (ys:=[item]) rfl rfl (by simp[A1.cells]) (by first|rfl|(simp only[List.drop_zero,take_mapL];rfl)|(simp only[lit,List.map_cons,List.map_nil,List.drop_zero,take_mapL,EE.down];done)|(simp only[lit,List.map_cons,List.map_nil,List.drop_zero,take_mapL,EE.down];rfl)) (ww ?_)
 obtain⟨t2,ht2,h⟩:=bi h
 refine cN [4,5] (F46_ok (e0:=0) (e1:=0) ht2) ⟨⟨rfl,trivial⟩,⟨⟨rfl,trivial⟩,trivial⟩⟩ ?_
 refine ww ?_
 obtain⟨y3,hy3,h⟩:=bi h
 refine t_idxO (enc:=eRBud) (xs:=cs) rfl rfl rfl (by first|rfl|simp only[List.length_set]|exact(clrL_len (slI_len (by assumption))).symm) hy3 (ww ?_)
 refine StRow.rd (y':=(⟨b.Meta,b.Selector,b.MinAvailable,b.MaxUnavailable,b.Observed,(IntKind.i64.wrap (b.Healthy-1)),b.Desired,b.Expected,(IntKind.i64.wrap (b.Allowed-1)),(D.sl (t2.map eWorkItem))⟩:RBud)) (rdI_some hy3).2.1 (by simp[EE.down]) (by first|rfl|(simp only[bor_full'];rfl)) (ww ?_)
 cases h
 exact eM [some 0,some 1,some 2] rfl
end Go.Proofs.Ytedgocbpegllaaa
