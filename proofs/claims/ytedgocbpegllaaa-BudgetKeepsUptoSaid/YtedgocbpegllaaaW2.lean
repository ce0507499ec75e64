/- Each Go function as a function over typed data, and its walk. -/
import Derived.Test.YtedgocbpegllaaaW0
namespace Go.Proofs.Ytedgocbpegllaaa
open Go Go.Fw Go.Shelf
set_option maxRecDepth 100000
set_option maxHeartbeats 4000000
set_option linter.unusedSimpArgs false
set_option linter.unusedVariables false
def F13_l3(xo1:Budget):Nat→Int→Option (((Bool) ⊕ (Unit)) ⊕ (Unit))
 |0,_=>none
 |k+1,o3_0=>(if o3_0<(xo1.Disrupted.length:Int)then(rdI xo1.Disrupted o3_0).bind fun y5=>(rdI xo1.Disrupted ((IntKind.i64.wrap (o3_0-1)))).bind fun y6=>(if((Op.bytesLess y5.Key.toList y6.Key.toList||decide (y5.Key=y6.Key)))=true then((some false).map Sum.inl).map Sum.inl else F13_l3 xo1 k ((IntKind.i64.wrap (o3_0+1))))else some (Sum.inr (())))
def F13_l1:List Budget→Nat→Option ((Bool) ⊕ (Unit))
 |[],o1_0=>some (Sum.inr (()))
 |xo1::xs,o1_0=>((F13_l3 xo1 1099511627776 1:Option (((Bool) ⊕ (Unit)) ⊕ (Unit))).bind fun o3=>match o3 with|Sum.inl f=>some f|Sum.inr po3=>F13_l1 xs (o1_0+1))
def F13(x0:(List Budget)):Option (Bool):=(((ck (0≤x0.length∧x0.length≤4294967290)).bind fun u8=>F13_l1 x0 0:Option ((Bool) ⊕ (Unit))).bind fun o1=>match o1 with|Sum.inl f=>some f|Sum.inr po1=>some true)
def a13:AFn:=⟨35,[(.tmp 2)],
 (.seq (.reg [Qf 2 false])
 (.seq (.seq (.reg [Qe 3 0])
 (.sem (.block 0 (.loop (.seq (.seq (.reg [Qa 6 3,
Qa 7 0,
Qh 8 7,
Qn 9 6 8])
 (.cond (.t 9)
 .skip
 (.exit 0)))
 (.seq (.block 1 (.seq (.reg [Qa 12 0,
Qa 13 3,
Qp 14 22 12 13,
Qb 15 21 14,
Qd 16 15,
Qa 4 16])
 (.seq (.reg [Qe 5 1])
 (.sem (.block 2 (.loop (.seq (.seq (.reg [Qa 17 5,
Qa 18 4,
Qh 19 18,
Qn 20 17 19])
 (.cond (.t 20)
 .skip
 (.exit 2)))
 (.seq (.block 3 (.seq (.regd [Qa 23 4,
Qa 24 5,
sd 25 (.indexA 2 (.t 23) (.t 24)) [0,1],
sd 26 (.fieldA 0 (.t 25)) [0,1,2],
sd 27 (.load none (.t 26)) [0,1,2,3],
Qa 28 4,
Qa 29 5,
sd 30 (.bin .sub (.t 29) (kI 1)) [6],
sd 31 (.indexA 2 (.t 28) (.t 30)) [5,6,7],
sd 32 (.fieldA 0 (.t 31)) [5,6,7,8],
sd 33 (.load none (.t 32)) [5,6,7,8,9],
sd 34 (.bin .leq (.t 27) (.t 33)) [0,1,2,3,4,5,6,7,8,9,10]])
 (.cond (.t 34)
 (.seq (.reg [Qf 2 false])
 .ret)
 .skip)))
 (.reg [Qa 21 5,
Qm 22 21 1,
Qa 5 22])))))))))
 (.reg [Qa 10 3,
Qm 11 10 1,
Qa 3 11])))))))
 (.seq (.reg [Qf 2 true])
 .ret)))⟩
theorem F13_ok{x0 r}(h:F13 x0=some r):CallD Try.prog 13 [.c (dM (x0.map eBudget))] [] (tupV [.c (dB r)]) []:=by
 rw[F13]at h
 refine zc a13 (by kernel_rfl) rfl (ww ?_)
 obtain⟨o1,ho,h⟩:=bi h
 refine cutS (fun s=>∃po1,o1=Sum.inr po1∧s=⟨[],[]⟩) ?_ ?_
 ·have h0o1:=h
  have h:=ho
  clear ho
  obtain⟨_,hk,h⟩:=bi h
  have hk:=ck_some hk
  refine ww ?_
  refine bL (fun j s=>∃(o1_0:Nat),(o1_0≤x0.length∧j=x0.length-o1_0)∧s=⟨[(0,oc (dM (x0.map eBudget))),(3,oc (dI ((o1_0:Int))))],[]⟩∧F13_l1 (x0.drop o1_0) o1_0=some o1) (x0.length-0) [] ⟨0,⟨hk.1,rfl⟩,rfl,h⟩ ?_
  rintro _ _ ⟨o1_0,⟨hi,rfl⟩,rfl,h⟩
  refine ww ?_
  refine condS (fun c2=>?_) (fun c2=>?_)
  ·obtain⟨xo1,hxo1,hd⟩:=countY (show(o1_0:Int)<(x0.length:Int)from c2)
   rw[hd,F13_l1]at h
   refine ww ?_
   refine t_idxF (enc:=eBudget) (xs:=x0) rfl rfl hxo1 rfl (ww ?_)
   obtain⟨o3,ho,h⟩:=bi h
   refine cutS (fun s=>∃po3,o3=Sum.inr po3∧s=⟨[(0,oc (dM (x0.map eBudget))),(3,oc (dI ((o1_0:Int))))],[]⟩) ?_ ?_
   ·have h0o3:=h
    have h:=ho
    clear ho
    refine ww ?_
    refine bL (fun j s=>∃(o3_0:Int),s=⟨[(0,oc (dM (x0.map eBudget))),(3,oc (dI ((o1_0:Int)))),(4,oc (dM (xo1.Disrupted.map eWorkItem))),(5,oc (dI o3_0))],[]⟩∧F13_l3 xo1 j o3_0=some o3) 1099511627776 [] ⟨1,rfl,h⟩ ?_
    rintro j _ ⟨o3_0,rfl,h⟩
    cases j with
    |zero=>cases(show(none:Option _)=some _ from h)
    |succ j=>
     rw[F13_l3]at h
     refine ww ?_
     refine condSh h (fun c4 h=>ww ?_) (fun c4 h=>?_)
     ·obtain⟨y5,hy5,h⟩:=bi h
      refine t_idxF (enc:=eWorkItem) (xs:=xo1.Disrupted) rfl rfl hy5 rfl (ww ?_)
      obtain⟨y6,hy6,h⟩:=bi h
      refine t_idxF (enc:=eWorkItem) (xs:=xo1.Disrupted) rfl rfl hy6 rfl (ww ?_)
      refine condBh h (fun c7 h=>ww ?_) (fun c7 h=>?_)
      ·obtain⟨fh0o3,hfh0o3,rfl⟩:=Option.map_eq_some_iff.1 h
       have h:=hfh0o3.trans h0o3
       obtain⟨fh0o1,hfh0o1,rfl⟩:=Option.map_eq_some_iff.1 h
       have h:=hfh0o1.trans h0o1
       cases h
       exact eF []
      ·refine ww ?_
       exact eL' j [] ⟨(IntKind.i64.wrap (o3_0+1)),rfl,h⟩ (Nat.lt_succ_self _)
     ·refine ww ?_
      cases h
      exact eM [] ⟨_,rfl,rfl⟩
   rintro _ ⟨po3,rfl,rfl⟩
   clear ho
   dsimp only at h
   refine ww ?_
   rw[wrapN (by omega)]
   exact eL' (x0.length-(o1_0+1)) [] ⟨o1_0+1,⟨by omega,rfl⟩,rfl,h⟩ (by omega)
  rw[countN (show¬((o1_0:Int)<(x0.length:Int))from c2),F13_l1]at h
  refine ww ?_
  cases h
  exact eM [] ⟨_,rfl,rfl⟩
 rintro _ ⟨po1,rfl,rfl⟩
 clear ho
 dsimp only at h
 refine ww ?_
 cases h
 exact eF []
theorem a52_ok:afn Try.prog 52=some (cloneA 2 32):=by kernel_rfl
theorem F52_ok{x0 r:List Label}(h:cloneI x0=some r):CallD Try.prog 52 [.c (dM (x0.map eLabel))] [] (tupV [.c (.own 0 1 0 r.length none)]) [some (.arr 1 2 (r.map eLabel))]:=L_clone a52_ok (fun _=>rfl) h
theorem a55_ok:afn Try.prog 55=some (cloneA 2 40):=by kernel_rfl
theorem F55_ok{x0 r:List Manager}(h:cloneI x0=some r):CallD Try.prog 55 [.c (dM (x0.map eManager))] [] (tupV [.c (.own 0 1 0 r.length none)]) [some (.arr 1 2 (r.map eManager))]:=L_clone a55_ok (fun _=>rfl) h
def F25(x0:Int)(x1:Int):Option (Unit):=some (())
def a25:AFn:=⟨9,[(.tmp 4)],
 (.seq (.reg [Qe 4 0])
 (.seq (.reg [Qa 5 0,
sq 6 (.max (.t 5) (kI 0)),
Qa 7 1,
sq 8 (.min (.t 6) (.t 7)),
Qa 4 8])
 .ret))⟩
theorem F25_ok{x0 x1 r}(h:F25 x0 x1=some r):CallD Try.prog 25 [.c (dI x0),.c (dI x1)] [] (tupV [.c (dI ((if x1<(if x0<0 then 0 else x0)then x1 else(if x0<0 then 0 else x0))))]) []:=by
 rw[F25]at h
 refine zc a25 (by kernel_rfl) rfl (ww ?_)
 cases h
 exact eF []
def F42(x0:Pod):Option (Bool):=(((if x0.Status.Phase=0 then some (nb x0.Meta.Deleting)else(if x0.Status.Phase=1 then some (nb x0.Meta.Deleting)else some false))).bind fun o1=>some o1)
def a42:AFn:=⟨19,[(.tmp 2)],
 (.seq (.reg [Qg 1 0,
Qf 2 false])
 (.seq (.sem (.reg [Qb 3 23 1,
Qb 4 0 3,
Qd 5 4,
Qr 6 5 0,
Qa 7 6,
Qs 8 7 false 23 1,
Qs 9 7 false 0 8,
Qt 10 7 false 9,
zg 11 7 false (.bin .eql (.t 10) (kI 1)),
Qj 12 7 11,
Qa 13 12,
Qs 14 13 true 0 1,
Qs 15 13 true 7 14,
Qt 16 13 true 15,
zg 17 13 true (.not (.t 16)),
Qi 18 13 17,
Qa 2 18]))
 .ret))⟩
theorem F42_ok{x0 r}(h:F42 x0=some r):CallD Try.prog 42 [.agg (bPod x0)] [] (tupV [.c (dB r)]) []:=by
 rw[F42]at h
 refine zc a42 (by kernel_rfl) rfl (ww ?_)
 obtain⟨o1,ho,h⟩:=bi h
 refine cutS (fun s=>s=⟨[(2,oc (dB o1))],[]⟩) ?_ ?_
 ·have h:=ho
  clear ho
  refine ww ?_
  refine guardSh h (fun g2 h=>ww ?_) (fun g2 h=>ww ?_)
  ·cases h
   exact eM [] rfl
  refine guardSh h (fun g3 h=>ww ?_) (fun g3 h=>ww ?_)
  ·cases h
   exact eM [] rfl
  cases h
  exact eM [] rfl
 rintro _ rfl
 clear ho
 refine ww ?_
 cases h
 exact eF []
def F28(x0:WorkItem)(b1:Int)(b2:List (ByteArray×Bool)):Option (Bool):=(((if(nb (((getM x0.Key b2).getD false)))=true then some true else some (decide (x0.At<(IntKind.i64.wrap (b1-120)))))).bind fun o1=>some o1)
def a28:AFn:=⟨17,[(.tmp 4)],
 (.seq (.reg [Qg 3 0,
Qf 4 false])
 (.seq (.sem (.reg [Qd 5 1,
Qb 6 0 3,
Qd 7 6,
sq 8 (.mget 1 false (.c (dB false)) (.t 5) (.t 7)),
Qq 9 8,
Qa 10 9,
Qs 11 10 false 1 3,
Qt 12 10 false 11,
Qt 13 10 false 2,
zg 14 10 false (.bin .sub (.t 13) (kI 120)),
zg 15 10 false (.bin .lss (.t 12) (.t 14)),
Qj 16 10 15,
Qa 4 16]))
 .ret))⟩
theorem F28_ok{x0 b1 b2 r}(h:F28 x0 b1 b2=some r):CallD Try.prog 28 [.agg [dS x0.Key,dI x0.At],.c (.pt 0 0),.c (.pt 1 0)] [xb [.mref 2],xb [dI b1],some (.map (eM1 Value.string (fun x=> .v (.bool x)) b2))] (tupV [.c (dB r)]) [xb [.mref 2],xb [dI b1],some (.map (eM1 Value.string (fun x=> .v (.bool x)) b2))]:=by
 rw[F28]at h
 refine zc a28 (by kernel_rfl) rfl (ww ?_)
 obtain⟨o1,ho,h⟩:=bi h
 refine cutS (fun s=>s=⟨[(4,oc (dB o1))],[xb [.mref 2],xb [dI b1],some (.map (eM1 Value.string (fun x=> .v (.bool x)) b2))]⟩) ?_ ?_
 ·have h:=ho
  clear ho
  refine ww ?_
  refine t_mget1 (enc:=(fun x=> .v (.bool x))) (l:=b2) (z:=false) kkS rfl rfl rfl rfl (ww ?_)
  refine guardSBh h (fun g2 h=>ww ?_) (fun g2 h=>ww ?_)
  ·cases h
   exact eM [some 0,some 1,some 2] rfl
  cases h
  exact eM [some 0,some 1,some 2] rfl
 rintro _ rfl
 clear ho
 refine ww ?_
 cases h
 exact eF [some 0,some 1,some 2]
def cF14a1:AC:=(.reg [Qg 6 2,
sq 8 (.mv kN),
Qe 9 0])
def F14a1(l:List Budget)(pods:List Pod)(key:ByteArray)(now:Int):Option (Unit):=some (())
theorem F14a1_ok{l pods key now r}(h:F14a1 l pods key now=some r):sK Try.prog 118 0 cF14a1 [] (sM 118 0 (fun s=>s=⟨[(0,oc (dM (l.map eBudget))),(1,oc (dM (pods.map ePod))),(3,oc (dI now)),(6,Pz 0)],[xb [dS key]]⟩) (xQ 118 0 (fun _ _=>False) (fun _=>False)))
 ⟨[(0,oc (dM (l.map eBudget))),(1,oc (dM (pods.map ePod))),(2,oc (dS key)),(3,oc (dI now))],[]⟩:=by
 rw[F14a1]at h
 simp only[cF14a1,VW.down,Nat.reduceEqDiff,reduceCtorEq,Nat.reduceAdd,Nat.reduceLeDiff,Nat.reduceLT,Nat.reduceBEq,Nat.reduceSub,EE.down]
 cases h
 exact eM [some 0] rfl
def cF14b0:AC:=(.reg [Qn 24 23 22])
def F14b0(l:List Budget)(pods:List Pod)(key:ByteArray)(now:Int)(cs:List RBud)(n:Int)(i:Int):Option (Unit):=some (())
theorem F14b0_ok{l pods key now cs n i r}(h:F14b0 l pods key now cs n i=some r):sK Try.prog 118 0 cF14b0 [] (sM 118 0 (fun s=>s=⟨[(0,oc (dM (l.map eBudget))),(1,oc (dM (pods.map ePod))),(3,oc (dI now)),(6,Pz 0),(10,oc (.own 1 0 0 (cs.length) none)),(21,oc (.own 1 0 0 (cs.length) none)),(22,oc (dI n)),(23,oc (dI i)),(24,oc (dB (decide (i<n))))],[xb [dS key],some (.arr 0 22 (cs.map eRBud))]⟩) (xQ 118 0 (fun _ _=>False) (fun _=>False)))
 ⟨[(0,oc (dM (l.map eBudget))),(1,oc (dM (pods.map ePod))),(3,oc (dI now)),(6,Pz 0),(10,oc (.own 1 0 0 (cs.length) none)),(21,oc (.own 1 0 0 (cs.length) none)),(22,oc (dI n)),(23,oc (dI i))],[xb [dS key],some (.arr 0 22 (cs.map eRBud))]⟩:=by
 rw[F14b0]at h
 simp only[cF14b0,VW.down,Nat.reduceEqDiff,reduceCtorEq,Nat.reduceAdd,Nat.reduceLeDiff,Nat.reduceLT,Nat.reduceBEq,Nat.reduceSub,EE.down]
 cases h
 exact eM [some 0,some 1] rfl
def cF14b1:AC:=(.reg [Qa 25 23,
Qp 26 22 21 23,
Qc 27 22 26,
sq 12 (.zbox [dS ⟨#[]⟩,dS ⟨#[]⟩,dS ⟨#[]⟩,dI 0,dI 0,dI 0,dI 0,dB false,dI 0,dN,dN,dN,dN,dN,dN,dN,dI 0,dI 0,dI 0,dI 0,dI 0,dN]),
Qa 11 25,
su (.store 22 (.t 12) (.t 27))])
def F14b1(l:List Budget)(pods:List Pod)(key:ByteArray)(now:Int)(cs:List RBud)(n:Int)(i:Int)(c:Bool):Option (RBud):=(rdI cs i).bind fun y1=>some ((⟨y1.Meta,y1.Selector,y1.MinAvailable,y1.MaxUnavailable,y1.Observed,y1.Healthy,y1.Desired,y1.Expected,y1.Allowed,y1.Disrupted⟩:RBud))
theorem F14b1_ok{l pods key now cs n i c r}(h:F14b1 l pods key now cs n i c=some r):sK Try.prog 118 0 cF14b1 [] (sM 118 0 (fun s=>s=⟨[(0,oc (dM (l.map eBudget))),(1,oc (dM (pods.map ePod))),(3,oc (dI now)),(6,Pz 0),(10,oc (.own 1 0 0 (cs.length) none)),(11,oc (dI i)),(12,Pz 2),(21,oc (.own 1 0 0 (cs.length) none)),(22,oc (dI n)),(23,oc (dI i))],[xb [dS key],some (.arr 0 22 (cs.map eRBud)),xb [dS ((r).Meta.Kind),dS ((r).Meta.Namespace),dS ((r).Meta.Name),dI ((r).Meta.Uid),dI ((r).Meta.Version),dI ((r).Meta.Generation),dI ((r).Meta.Created),dB ((r).Meta.Deleting),dI ((r).Meta.DeleteAt),dM (((r).Meta.Labels).map eLabel),dM (((r).Meta.Owners).map eOwner),dM (((r).Meta.Finalizers).map eS),dM (((r).Meta.Managers).map eManager),dM (((r).Selector).map eRequirement),dM (((r).MinAvailable).map eAmount),dM (((r).MaxUnavailable).map eAmount),dI ((r).Observed),dI ((r).Healthy),dI ((r).Desired),dI ((r).Expected),dI ((r).Allowed),.d ((r).Disrupted)]]⟩) (xQ 118 0 (fun _ _=>False) (fun _=>False)))
 ⟨[(0,oc (dM (l.map eBudget))),(1,oc (dM (pods.map ePod))),(3,oc (dI now)),(6,Pz 0),(10,oc (.own 1 0 0 (cs.length) none)),(21,oc (.own 1 0 0 (cs.length) none)),(22,oc (dI n)),(23,oc (dI i)),(24,oc (dB c))],[xb [dS key],some (.arr 0 22 (cs.map eRBud))]⟩:=by
 rw[F14b1]at h
 simp only[cF14b1,VW.down,Nat.reduceEqDiff,reduceCtorEq,Nat.reduceAdd,Nat.reduceLeDiff,Nat.reduceLT,Nat.reduceBEq,Nat.reduceSub,EE.down]
 obtain⟨y1,hy1,h⟩:=bi h
 refine t_idxO (enc:=eRBud) (xs:=cs) rfl rfl rfl (by first|rfl|simp only[List.length_set]|exact(clrL_len (slI_len (by assumption))).symm) hy1 (ww ?_)
 refine LdRow.rd (rdI_some hy1).2.1 (ww ?_)
 cases h
 exact eM [some 0,some 1,some 2] rfl
def cF14c0:AC:=(.reg [Qn 74 73 72])
def F14c0(pods:List Pod)(key:ByteArray)(cs:List RBud)(at_:Int)(item:WorkItem)(n:Int)(i:Int):Option (Unit):=some (())
theorem F14c0_ok{pods key cs at_ item n i r}(h:F14c0 pods key cs at_ item n i=some r):sK Try.prog 118 0 cF14c0 [] (sM 118 0 (fun s=>s=⟨[(1,oc (dM (pods.map ePod))),(6,Pz 0),(10,oc (.own 1 0 0 (cs.length) none)),(13,oc (dI at_)),(14,Pz 2),(71,oc (.own 1 0 0 (cs.length) none)),(72,oc (dI n)),(73,oc (dI i)),(74,oc (dB (decide (i<n))))],[xb [dS key],some (.arr 0 22 (cs.map eRBud)),xb [dS item.Key,dI item.At]]⟩) (xQ 118 0 (fun _ _=>False) (fun _=>False)))
 ⟨[(1,oc (dM (pods.map ePod))),(6,Pz 0),(10,oc (.own 1 0 0 (cs.length) none)),(13,oc (dI at_)),(14,Pz 2),(71,oc (.own 1 0 0 (cs.length) none)),(72,oc (dI n)),(73,oc (dI i))],[xb [dS key],some (.arr 0 22 (cs.map eRBud)),xb [dS item.Key,dI item.At]]⟩:=by
 rw[F14c0]at h
 simp only[cF14c0,VW.down,Nat.reduceEqDiff,reduceCtorEq,Nat.reduceAdd,Nat.reduceLeDiff,Nat.reduceLT,Nat.reduceBEq,Nat.reduceSub,EE.down]
 cases h
 exact eM [some 0,some 1,some 2] rfl
def cF14e1:AC:=(.seq (.reg [Qa 117 10,
Qa 8 117,
Qe 9 0])
 .ret)
def F14e1(pods:List Pod)(key:ByteArray)(cs:List RBud)(at_:Int)(item:WorkItem)(n:Int)(i:Int)(c:Bool):Option (Unit):=some (())
theorem F14e1_ok{pods key cs at_ item n i c r}(h:F14e1 pods key cs at_ item n i c=some r):sK Try.prog 118 0 cF14e1 [] (sM 118 0 (fun _=>False) (xQ 118 0 (fun _ _=>False) (fun s=>s=⟨[(8,oc (.own 0 0 0 (cs.length) none)),(9,oc (dI 0))],[some (.arr 0 22 (cs.map eRBud))]⟩)))
 ⟨[(1,oc (dM (pods.map ePod))),(6,Pz 0),(10,oc (.own 1 0 0 (cs.length) none)),(13,oc (dI at_)),(14,Pz 2),(71,oc (.own 1 0 0 (cs.length) none)),(72,oc (dI n)),(73,oc (dI i)),(74,oc (dB c))],[xb [dS key],some (.arr 0 22 (cs.map eRBud)),xb [dS item.Key,dI item.At]]⟩:=by
 rw[F14e1]at h
 simp only[cF14e1,VW.down,Nat.reduceEqDiff,reduceCtorEq,Nat.reduceAdd,Nat.reduceLeDiff,Nat.reduceLT,Nat.reduceBEq,Nat.reduceSub,EE.down]
 cases h
 exact eR [some 1] rfl
def F37_l1(x1:ByteArray):List WorkItem→Nat→Option ((Bool) ⊕ (Unit))
 |[],o1_0=>some (Sum.inr (()))
 |xo1::xs,o1_0=>(if xo1.Key=x1 then(some true).map Sum.inl else F37_l1 x1 xs (o1_0+1))
def F37(x0:(List WorkItem))(x1:ByteArray):Option (Bool):=(((ck (0≤x0.length∧x0.length≤4294967290)).bind fun u4=>F37_l1 x1 x0 0:Option ((Bool) ⊕ (Unit))).bind fun o1=>match o1 with|Sum.inl f=>some f|Sum.inr po1=>some false)
def a37:AFn:=⟨19,[(.tmp 4)],
 (.seq (.reg [Qf 4 false])
 (.seq (.seq (.reg [Qe 5 0])
 (.sem (.block 0 (.loop (.seq (.seq (.reg [Qa 6 5,
Qa 7 0,
Qh 8 7,
Qn 9 6 8])
 (.cond (.t 9)
 .skip
 (.exit 0)))
 (.seq (.block 1 (.seq (.reg [Qa 12 0,
Qa 13 5,
Qp 14 2 12 13,
Qb 15 0 14,
Qd 16 15,
Qa 17 1,
sq 18 (.bin .eql (.t 16) (.t 17))])
 (.cond (.t 18)
 (.seq (.reg [Qf 4 true])
 .ret)
 .skip)))
 (.reg [Qa 10 5,
Qm 11 10 1,
Qa 5 11])))))))
 (.seq (.reg [Qf 4 false])
 .ret)))⟩
theorem F37_ok{x0 x1 r}(h:F37 x0 x1=some r):CallD Try.prog 37 [.c (dM (x0.map eWorkItem)),.c (dS x1)] [] (tupV [.c (dB r)]) []:=by
 rw[F37]at h
 refine zc a37 (by kernel_rfl) rfl (ww ?_)
 obtain⟨o1,ho,h⟩:=bi h
 refine cutS (fun s=>∃po1,o1=Sum.inr po1∧s=⟨[],[]⟩) ?_ ?_
 ·have h0o1:=h
  have h:=ho
  clear ho
  obtain⟨_,hk,h⟩:=bi h
  have hk:=ck_some hk
  refine ww ?_
  refine bL (fun j s=>∃(o1_0:Nat),(o1_0≤x0.length∧j=x0.length-o1_0)∧s=⟨[(0,oc (dM (x0.map eWorkItem))),(1,oc (dS x1)),(5,oc (dI ((o1_0:Int))))],[]⟩∧F37_l1 x1 (x0.drop o1_0) o1_0=some o1) (x0.length-0) [] ⟨0,⟨hk.1,rfl⟩,rfl,h⟩ ?_
  rintro _ _ ⟨o1_0,⟨hi,rfl⟩,rfl,h⟩
  refine ww ?_
  refine condS (fun c2=>?_) (fun c2=>?_)
  ·obtain⟨xo1,hxo1,hd⟩:=countY (show(o1_0:Int)<(x0.length:Int)from c2)
   rw[hd,F37_l1]at h
   refine ww ?_
   refine t_idxF (enc:=eWorkItem) (xs:=x0) rfl rfl hxo1 rfl (ww ?_)
   refine condSh h (fun c3 h=>ww ?_) (fun c3 h=>ww ?_)
   ·obtain⟨fh0o1,hfh0o1,rfl⟩:=Option.map_eq_some_iff.1 h
    have h:=hfh0o1.trans h0o1
    cases h
    exact eF []
   rw[wrapN (by omega)]
   exact eL' (x0.length-(o1_0+1)) [] ⟨o1_0+1,⟨by omega,rfl⟩,rfl,h⟩ (by omega)
  rw[countN (show¬((o1_0:Int)<(x0.length:Int))from c2),F37_l1]at h
  refine ww ?_
  cases h
  exact eM [] ⟨_,rfl,rfl⟩
 rintro _ ⟨po1,rfl,rfl⟩
 clear ho
 dsimp only at h
 refine ww ?_
 cases h
 exact eF []
def cF5ke:AC:=(.reg [Qa 63 11,
Qh 64 63])
def F5ke(pods:List Pod)(order:List Int)(now:Int)(fs:List Budget):Option (Unit):=some (())
theorem F5ke_ok{pods order now fs r}(h:F5ke pods order now fs=some r):sK Try.prog 169 0 cF5ke [] (sM 169 0 (fun s=>s=⟨[(1,oc (dM (pods.map ePod))),(2,oc (dM (order.map (eK .u8)))),(4,oc (dI now)),(11,oc (dM (fs.map eBudget))),(63,oc (dM (fs.map eBudget))),(64,oc (dI ((fs.length:Int))))],[]⟩) (xQ 169 0 (fun _ _=>False) (fun _=>False)))
 ⟨[(1,oc (dM (pods.map ePod))),(2,oc (dM (order.map (eK .u8)))),(4,oc (dI now)),(11,oc (dM (fs.map eBudget)))],[]⟩:=by
 rw[F5ke]at h
 simp only[cF5ke,VW.down,Nat.reduceEqDiff,reduceCtorEq,Nat.reduceAdd,Nat.reduceLeDiff,Nat.reduceLT,Nat.reduceBEq,Nat.reduceSub,EE.down]
 cases h
 exact eM [] rfl
def cF5ki:AC:=(.regd [Qa 72 13,
Qa 73 14,
Qa 74 13,
Qa 75 14,
sd 76 (.indexA 1 (.t 74) (.t 75)) [2,3],
sd 77 (.load none (.t 76)) [2,3,4],
Qa 78 11,
Qa 79 14,
sd 80 (.indexA 22 (.t 78) (.t 79)) [6,7],
sd 81 (.fieldA 21 (.t 80)) [6,7,8],
sd 82 (.load none (.t 81)) [6,7,8,9],
zl 83 (.app 2 24 (.t 77) (.t 82)) [2,3,4,5,6,7,8,9,10] [],
sd 84 (.indexA 1 (.t 72) (.t 73)) [0,1,2,3,4,5,6,7,8,9,10,11]])
def F5ki(pods:List Pod)(order:List Int)(now:Int)(fs:List Budget)(go:List D)(i:Int):Option ((List WorkItem)):=(rdI go i).bind fun y1=>(rdN go i).bind fun z2=>(rdI fs i).bind fun y3=>(apI ([]:List WorkItem) y3.Disrupted).bind fun a4=>(rdI go i).bind fun y5=>some a4
theorem F5ki_ok{pods order now fs go i r}(h:F5ki pods order now fs go i=some r):sK Try.prog 169 0 cF5ki [] (sM 169 0 (fun s=>s=⟨[(1,oc (dM (pods.map ePod))),(2,oc (dM (order.map (eK .u8)))),(4,oc (dI now)),(11,oc (dM (fs.map eBudget))),(13,oc (.own 0 0 0 (go.length) none)),(14,oc (dI i)),(83,oc (.own 1 0 0 (r.length) none)),(84,oc (.pe 0 0 i.toNat 0))],[some (.arr 0 1 (go.map eRaw)),some (.arr 0 2 (r.map eWorkItem))]⟩) (xQ 169 0 (fun _ _=>False) (fun _=>False)))
 ⟨[(1,oc (dM (pods.map ePod))),(2,oc (dM (order.map (eK .u8)))),(4,oc (dI now)),(11,oc (dM (fs.map eBudget))),(13,oc (.own 0 0 0 (go.length) none)),(14,oc (dI i))],[some (.arr 0 1 (go.map eRaw))]⟩:=by
 rw[F5ki]at h
 simp only[cF5ki,VW.down,Nat.reduceEqDiff,reduceCtorEq,Nat.reduceAdd,Nat.reduceLeDiff,Nat.reduceLT,Nat.reduceBEq,Nat.reduceSub,EE.down]
 obtain⟨y1,hy1,h⟩:=bi h
 refine t_idxO (enc:=eRaw) (xs:=go) rfl rfl rfl (by first|rfl|simp only[List.length_set]|exact(clrL_len (slI_len (by assumption))).symm) hy1 (ww ?_)
 obtain⟨z2,hz2,h⟩:=bi h
 refine LdRow.rd (rdI_some (rdN_some hz2)).2.1 (ww ?_)
 obtain⟨y3,hy3,h⟩:=bi h
 refine t_idxF (enc:=eBudget) (xs:=fs) rfl rfl hy3 rfl (ww ?_)
 obtain⟨a4,ha4,h⟩:=bi h
 refine t_appN (enc:=eWorkItem) rfl rfl (rows_frz (enc:=eWorkItem) (fun _=>rfl)) ha4 (ww ?_)
 obtain⟨y5,hy5,h⟩:=bi h
 refine t_idxO (enc:=eRaw) (xs:=go) rfl rfl rfl (by first|rfl|simp only[List.length_set]|exact(clrL_len (slI_len (by assumption))).symm) hy5 (ww ?_)
 cases h
 exact eM [some 0,some 1] rfl (hB:=by simp only[ZZ.down,Nat.reduceEqDiff,reduceCtorEq,Nat.reduceAdd,Nat.reduceLeDiff,Nat.reduceLT,Nat.reduceBNe,EE.down,peLt hy1,peLt hy5]) (hs:=by simp only[ZZ.down,Nat.reduceEqDiff,reduceCtorEq,Nat.reduceAdd,Nat.reduceLeDiff,Nat.reduceLT,Nat.reduceBNe,EE.down,peLt hy1,peLt hy5])
def cF5kj:AC:=(.reg [Qa 70 14,
Qm 71 70 1,
Qa 14 71])
def F5kj(pods:List Pod)(order:List Int)(now:Int)(fs:List Budget)(go:List D)(i:Int):Option (Unit):=some (())
theorem F5kj_ok{pods order now fs go i r}(h:F5kj pods order now fs go i=some r):sK Try.prog 169 0 cF5kj [] (sM 169 0 (fun s=>s=⟨[(1,oc (dM (pods.map ePod))),(2,oc (dM (order.map (eK .u8)))),(4,oc (dI now)),(11,oc (dM (fs.map eBudget))),(13,oc (.own 0 0 0 (go.length) none)),(14,oc (dI ((IntKind.i64.wrap (i+1)))))],[some (.arr 0 1 (go.map eRaw))]⟩) (xQ 169 0 (fun _ _=>False) (fun _=>False)))
 ⟨[(1,oc (dM (pods.map ePod))),(2,oc (dM (order.map (eK .u8)))),(4,oc (dI now)),(11,oc (dM (fs.map eBudget))),(13,oc (.own 0 0 0 (go.length) none)),(14,oc (dI i))],[some (.arr 0 1 (go.map eRaw))]⟩:=by
 rw[F5kj]at h
 simp only[cF5kj,VW.down,Nat.reduceEqDiff,reduceCtorEq,Nat.reduceAdd,Nat.reduceLeDiff,Nat.reduceLT,Nat.reduceBEq,Nat.reduceSub,EE.down]
 cases h
 exact eM [some 0] rfl
def cF5kt:AC:=(.reg [Qa 122 13,
Qa 123 20,
Qa 124 13,
Qa 125 20,
Qp 126 1 124 125,
Qd 127 126])
def F5kt(pods:List Pod)(order:List Int)(now:Int)(fs:List Budget)(go:List D)(st:List Budget)(j:Int)(key:ByteArray)(k:Int):Option (D):=(rdI go k).bind fun y1=>some y1
theorem F5kt_ok{pods order now fs go st j key k r}(h:F5kt pods order now fs go st j key k=some r):sK Try.prog 169 0 cF5kt [] (sM 169 0 (fun s=>s=⟨[(1,oc (dM (pods.map ePod))),(2,oc (dM (order.map (eK .u8)))),(4,oc (dI now)),(11,oc (dM (fs.map eBudget))),(13,oc (.own 0 0 0 (go.length) none)),(15,oc (dM (st.map eBudget))),(16,oc (dI j)),(17,oc (dS key)),(20,oc (dI k)),(122,oc (.own 0 0 0 (go.length) none)),(123,oc (dI k)),(127,oc (.d (r)))],[some (.arr 0 1 (go.map eRaw))]⟩) (xQ 169 0 (fun _ _=>False) (fun _=>False)))
 ⟨[(1,oc (dM (pods.map ePod))),(2,oc (dM (order.map (eK .u8)))),(4,oc (dI now)),(11,oc (dM (fs.map eBudget))),(13,oc (.own 0 0 0 (go.length) none)),(15,oc (dM (st.map eBudget))),(16,oc (dI j)),(17,oc (dS key)),(20,oc (dI k))],[some (.arr 0 1 (go.map eRaw))]⟩:=by
 rw[F5kt]at h
 simp only[cF5kt,VW.down,Nat.reduceEqDiff,reduceCtorEq,Nat.reduceAdd,Nat.reduceLeDiff,Nat.reduceLT,Nat.reduceBEq,Nat.reduceSub,EE.down]
 obtain⟨y1,hy1,h⟩:=bi h
 refine t_idxO (enc:=eRaw) (xs:=go) rfl rfl rfl (by first|rfl|simp only[List.length_set]|exact(clrL_len (slI_len (by assumption))).symm) hy1 (ww ?_)
 refine LdRow.rd (rdI_some hy1).2.1 (ww ?_)
 cases h
 exact eM [some 0] rfl
def cF5kv:AC:=(.reg [Qp 132 1 122 123])
def F5kv(pods:List Pod)(order:List Int)(now:Int)(fs:List Budget)(go:List D)(st:List Budget)(j:Int)(key:ByteArray)(k:Int)(y:D):Option (Unit):=(rdI go k).bind fun y1=>some (())
theorem F5kv_ok{pods order now fs go st j key k y r}(h:F5kv pods order now fs go st j key k y=some r):sK Try.prog 169 0 cF5kv [] (sM 169 0 (fun s=>s=⟨[(1,oc (dM (pods.map ePod))),(2,oc (dM (order.map (eK .u8)))),(4,oc (dI now)),(11,oc (dM (fs.map eBudget))),(13,oc (.own 0 0 0 (go.length) none)),(15,oc (dM (st.map eBudget))),(16,oc (dI j)),(17,oc (dS key)),(20,oc (dI k)),(131,oc (.d (y))),(132,oc (.pe 0 0 k.toNat 0))],[some (.arr 0 1 (go.map eRaw))]⟩) (xQ 169 0 (fun _ _=>False) (fun _=>False)))
 ⟨[(1,oc (dM (pods.map ePod))),(2,oc (dM (order.map (eK .u8)))),(4,oc (dI now)),(11,oc (dM (fs.map eBudget))),(13,oc (.own 0 0 0 (go.length) none)),(15,oc (dM (st.map eBudget))),(16,oc (dI j)),(17,oc (dS key)),(20,oc (dI k)),(122,oc (.own 0 0 0 (go.length) none)),(123,oc (dI k)),(131,oc (.d (y)))],[some (.arr 0 1 (go.map eRaw)),some (.arr 1 2 (([]:List WorkItem).map eWorkItem))]⟩:=by
 rw[F5kv]at h
 simp only[cF5kv,VW.down,Nat.reduceEqDiff,reduceCtorEq,Nat.reduceAdd,Nat.reduceLeDiff,Nat.reduceLT,Nat.reduceBEq,Nat.reduceSub,EE.down]
 obtain⟨y1,hy1,h⟩:=bi h
 refine t_idxO (enc:=eRaw) (xs:=go) rfl rfl rfl (by first|rfl|simp only[List.length_set]|exact(clrL_len (slI_len (by assumption))).symm) hy1 (ww ?_)
 cases h
 exact eM [some 0] rfl (hB:=by simp only[ZZ.down,Nat.reduceEqDiff,reduceCtorEq,Nat.reduceAdd,Nat.reduceLeDiff,Nat.reduceLT,Nat.reduceBNe,EE.down,peLt hy1]) (hs:=by simp only[ZZ.down,Nat.reduceEqDiff,reduceCtorEq,Nat.reduceAdd,Nat.reduceLeDiff,Nat.reduceLT,Nat.reduceBNe,EE.down,peLt hy1])
def cF5kw:AC:=(.reg [Qa 120 20,
Qm 121 120 1,
Qa 20 121])
def F5kw(pods:List Pod)(order:List Int)(now:Int)(fs:List Budget)(go:List D)(st:List Budget)(j:Int)(key:ByteArray)(k:Int):Option (Unit):=some (())
theorem F5kw_ok{pods order now fs go st j key k r}(h:F5kw pods order now fs go st j key k=some r):sK Try.prog 169 0 cF5kw [] (sM 169 0 (fun s=>s=⟨[(1,oc (dM (pods.map ePod))),(2,oc (dM (order.map (eK .u8)))),(4,oc (dI now)),(11,oc (dM (fs.map eBudget))),(13,oc (.own 0 0 0 (go.length) none)),(15,oc (dM (st.map eBudget))),(16,oc (dI j)),(17,oc (dS key)),(20,oc (dI ((IntKind.i64.wrap (k+1)))))],[some (.arr 0 1 (go.map eRaw))]⟩) (xQ 169 0 (fun _ _=>False) (fun _=>False)))
 ⟨[(1,oc (dM (pods.map ePod))),(2,oc (dM (order.map (eK .u8)))),(4,oc (dI now)),(11,oc (dM (fs.map eBudget))),(13,oc (.own 0 0 0 (go.length) none)),(15,oc (dM (st.map eBudget))),(16,oc (dI j)),(17,oc (dS key)),(20,oc (dI k))],[some (.arr 0 1 (go.map eRaw))]⟩:=by
 rw[F5kw]at h
 simp only[cF5kw,VW.down,Nat.reduceEqDiff,reduceCtorEq,Nat.reduceAdd,Nat.reduceLeDiff,Nat.reduceLT,Nat.reduceBEq,Nat.reduceSub,EE.down]
 cases h
 exact eM [some 0] rfl
end Go.Proofs.Ytedgocbpegllaaa
