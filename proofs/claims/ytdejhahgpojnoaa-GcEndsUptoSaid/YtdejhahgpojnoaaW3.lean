/- Each Go function as a function over typed data, and its walk. -/
import Derived.Test.YtdejhahgpojnoaaW0
namespace Go.Proofs.Ytdejhahgpojnoaa
open Go Go.Fw Go.Shelf
set_option maxRecDepth 100000
set_option maxHeartbeats 4000000
set_option linter.unusedSimpArgs false
set_option linter.unusedVariables false
def F7_l1:List Object→Nat→Option ((Bool) ⊕ (Unit))
 |[],o1_0=>some (Sum.inr (()))
 |xo1::xs,o1_0=>(((if 20<(xo1.Meta.Owners.length:Int)then some true else some (decide (20<(xo1.Meta.Finalizers.length:Int))))).bind fun o3=>(if o3=true then(some true).map Sum.inl else F7_l1 xs (o1_0+1)))
def F7(x0:(List Object)):Option (Bool):=(((ck (0≤x0.length∧x0.length≤4294967290)).bind fun u6=>F7_l1 x0 0:Option ((Bool) ⊕ (Unit))).bind fun o1=>match o1 with|Sum.inl f=>some f|Sum.inr po1=>some (decide (24<(x0.length:Int))))
def a7:AFn:=⟨31,[(.tmp 2)],
 (.seq (.reg [Qf 2 false])
 (.seq (.seq (.reg [Qe 3 0])
 (.sem (.block 0 (.loop (.seq (.seq (.reg [Qa 4 3,
Qa 5 0,
Qh 6 5,
Qn 7 4 6])
 (.cond (.t 7)
 .skip
 (.exit 0)))
 (.seq (.block 1 (.seq (.sem (.reg [Qa 10 0,
Qa 11 3,
Qp 12 23 10 11,
Qb 13 0 12,
Qb 14 10 13,
Qd 15 14,
Qh 16 15,
sq 17 (.bin .gtr (.t 16) (kI 20)),
Qa 18 17,
Qv 19 18 false 0,
Qv 20 18 false 3,
zg 21 18 false (.indexA 23 (.t 19) (.t 20)),
Qs 22 18 false 0 21,
Qs 23 18 false 11 22,
Qt 24 18 false 23,
zg 25 18 false (.len (.t 24)),
zg 26 18 false (.bin .gtr (.t 25) (kI 20)),
zl 27 (.pick (.t 18) (kB true) (.t 26)) [] [10,12,13,14,15,19,21,22,23,24]]))
 (.cond (.t 27)
 (.seq (.reg [Qf 2 true])
 .ret)
 .skip)))
 (.reg [Qa 8 3,
Qm 9 8 1,
Qa 3 9])))))))
 (.seq (.reg [Qa 28 0,
Qh 29 28,
sq 30 (.bin .gtr (.t 29) (kI 24)),
Qa 2 30])
 .ret)))⟩
theorem F7_ok{x0 r}(h:F7 x0=some r):CallD Try.prog 7 [.c (dM (x0.map eObject))] [] (tupV [.c (dB r)]) []:=by
 rw[F7]at h
 refine zc a7 (by kernel_rfl) rfl (ww ?_)
 obtain⟨o1,ho,h⟩:=bi h
 refine cutS (fun s=>∃po1,o1=Sum.inr po1∧s=⟨[(0,oc (dM (x0.map eObject)))],[]⟩) ?_ ?_
 ·have h0o1:=h
  have h:=ho
  clear ho
  obtain⟨_,hk,h⟩:=bi h
  have hk:=ck_some hk
  refine ww ?_
  refine bL (fun j s=>∃(o1_0:Nat),(o1_0≤x0.length∧j=x0.length-o1_0)∧s=⟨[(0,oc (dM (x0.map eObject))),(3,oc (dI ((o1_0:Int))))],[]⟩∧F7_l1 (x0.drop o1_0) o1_0=some o1) (x0.length-0) [] ⟨0,⟨hk.1,rfl⟩,rfl,h⟩ ?_
  rintro _ _ ⟨o1_0,⟨hi,rfl⟩,rfl,h⟩
  refine ww ?_
  refine condS (fun c2=>?_) (fun c2=>?_)
  ·obtain⟨xo1,hxo1,hd⟩:=countY (show(o1_0:Int)<(x0.length:Int)from c2)
   rw[hd,F7_l1]at h
   refine ww ?_
   obtain⟨o3,ho,h⟩:=bi h
   refine cutS (fun s=>s=⟨[(0,oc (dM (x0.map eObject))),(3,oc (dI ((o1_0:Int)))),(27,oc (dB o3))],[]⟩) ?_ ?_
   ·have h:=ho
    clear ho
    refine ww ?_
    refine t_idxF (enc:=eObject) (xs:=x0) rfl rfl hxo1 rfl (ww ?_)
    refine guardSh h (fun g4 h=>ww ?_) (fun g4 h=>ww ?_)
    ·cases h
     exact eM [] rfl
    refine t_idxF (enc:=eObject) (xs:=x0) rfl rfl hxo1 rfl (ww ?_)
    cases h
    exact eM [] rfl
   rintro _ rfl
   clear ho
   refine ww ?_
   refine condBh h (fun c5 h=>ww ?_) (fun c5 h=>ww ?_)
   ·obtain⟨fh0o1,hfh0o1,rfl⟩:=Option.map_eq_some_iff.1 h
    have h:=hfh0o1.trans h0o1
    cases h
    exact eF []
   rw[wrapN (by omega)]
   exact eL' (x0.length-(o1_0+1)) [] ⟨o1_0+1,⟨by omega,rfl⟩,rfl,h⟩ (by omega)
  rw[countN (show¬((o1_0:Int)<(x0.length:Int))from c2),F7_l1]at h
  refine ww ?_
  cases h
  exact eM [] ⟨_,rfl,rfl⟩
 rintro _ ⟨po1,rfl,rfl⟩
 clear ho
 dsimp only at h
 refine ww ?_
 cases h
 exact eF []
def F33_l1(x1:ByteArray):List ByteArray→Nat→(List ByteArray)→Option ((List ByteArray))
 |[],o1_1,o1_0=>some o1_0
 |xo1::xs,o1_1,o1_0=>(((if¬(xo1=x1)then(apI o1_0 ([xo1])).bind fun a5=>some a5 else some o1_0)).bind fun o3=>F33_l1 x1 xs (o1_1+1) o3)
def F33(x0:(List ByteArray))(x1:ByteArray):Option ((List ByteArray)):=(((ck (0≤x0.length∧x0.length≤4294967290)).bind fun u6=>F33_l1 x1 x0 0 ([])).bind fun o1=>some o1)
def a33:AFn:=⟨27,[(.tmp 4)],
 (.seq (.reg [sq 4 (.mv kN)])
 (.seq (.reg [sq 5 (.mv kN)])
 (.seq (.seq (.reg [Qe 6 0])
 (.sem (.block 0 (.loop (.seq (.seq (.reg [Qa 7 6,
Qa 8 0,
Qh 9 8,
Qn 10 7 9])
 (.cond (.t 10)
 .skip
 (.exit 0)))
 (.seq (.sem (.block 1 (.seq (.reg [Qa 13 0,
Qa 14 6,
Qp 15 1 13 14,
Qd 16 15,
Qa 17 1,
sq 18 (.bin .neq (.t 16) (.t 17))])
 (.cond (.t 18)
 (.reg [Qa 19 5,
Qa 20 0,
Qa 21 6,
Qp 22 1 20 21,
Qd 23 22,
sq 24 (.bslice 1 [(.t 23)]),
sq 25 (.app 1 16 (.t 19) (.t 24)),
Qa 5 25])
 .skip))))
 (.reg [Qa 11 6,
Qm 12 11 1,
Qa 6 12])))))))
 (.seq (.reg [Qa 26 5,
Qa 4 26])
 .ret))))⟩
theorem F33_ok{x0 x1 r}(h:F33 x0 x1=some r):CallD Try.prog 33 [.c (dM (x0.map eS)),.c (dS x1)] [] (tupV [.c (.own 0 0 0 (r.length) none)]) [some (.arr 0 1 (r.map eS))]:=by
 rw[F33]at h
 refine zc a33 (by kernel_rfl) rfl (ww ?_)
 obtain⟨o1,ho,h⟩:=bi h
 refine cutS (fun s=>s=⟨[(5,oc (.own 0 0 0 (o1.length) none))],[some (.arr 0 1 (o1.map eS))]⟩) ?_ ?_
 ·have h:=ho
  clear ho
  obtain⟨_,hk,h⟩:=bi h
  have hk:=ck_some hk
  refine ww ?_
  refine bL (fun j s=>∃(o1_1:Nat) (o1_0:List ByteArray),(o1_1≤x0.length∧j=x0.length-o1_1)∧s=⟨[(0,oc (dM (x0.map eS))),(1,oc (dS x1)),(5,oc (.own 0 0 0 (o1_0.length) none)),(6,oc (dI ((o1_1:Int))))],[some (.arr 0 1 (o1_0.map eS))]⟩∧F33_l1 x1 (x0.drop o1_1) o1_1 o1_0=some o1) (x0.length-0) [none] ⟨0,[],⟨hk.1,rfl⟩,rfl,h⟩ ?_
  rintro _ _ ⟨o1_1,o1_0,⟨hi,rfl⟩,rfl,h⟩
  refine ww ?_
  refine condS (fun c2=>?_) (fun c2=>?_)
  ·obtain⟨xo1,hxo1,hd⟩:=countY (show(o1_1:Int)<(x0.length:Int)from c2)
   rw[hd,F33_l1]at h
   refine ww ?_
   obtain⟨o3,ho,h⟩:=bi h
   refine cutS (fun s=>s=⟨[(0,oc (dM (x0.map eS))),(1,oc (dS x1)),(5,oc (.own 0 0 0 (o3.length) none)),(6,oc (dI ((o1_1:Int))))],[some (.arr 0 1 (o3.map eS))]⟩) ?_ ?_
   ·have h:=ho
    clear ho
    refine ww ?_
    refine t_idxF (enc:=eS) (xs:=x0) rfl rfl hxo1 rfl (ww ?_)
    refine condSh h (fun c4 h=>ww ?_) (fun c4 h=>ww ?_)
    ·refine t_idxF (enc:=eS) (xs:=x0) rfl rfl hxo1 rfl (ww ?_)
     refine t_bslice (enc:=eS) (ys:=[xo1]) rfl rfl (by simp[A1.cells]) (by first|rfl|(simp only[List.drop_zero,take_mapL];rfl)|(simp only[lit,List.map_cons,List.map_nil,List.drop_zero,take_mapL,EE.down];done)|(simp only[lit,List.map_cons,List.map_nil,List.drop_zero,take_mapL,EE.down];rfl)) (ww ?_)
     obtain⟨a5,ha5,h⟩:=bi h
     refine t_app (enc:=eS) (xs:=o1_0) rfl rfl (by first|rfl|simp only[List.length_set]|exact(clrL_len (slI_len (by assumption))).symm) rfl (rows_full (enc:=eS) (by first|rfl|simp only[List.length_set]|exact(clrL_len (slI_len (by assumption))).symm) rfl) ha5 (ww ?_)
     cases h
     exact eM [some 0] rfl
    cases h
    exact eM [some 0] rfl
   rintro _ rfl
   clear ho
   refine ww ?_
   rw[wrapN (by omega)]
   exact eL' (x0.length-(o1_1+1)) [some 0] ⟨o1_1+1,o3,⟨by omega,rfl⟩,rfl,h⟩ (by omega)
  rw[countN (show¬((o1_1:Int)<(x0.length:Int))from c2),F33_l1]at h
  refine ww ?_
  cases h
  exact eM [some 0] rfl
 rintro _ rfl
 clear ho
 refine ww ?_
 cases h
 exact eF [some 0]
def F38(x0:Owner)(b1:List (Int×TState)):Option (Unit):=some (())
def a38:AFn:=⟨9,[(.tmp 3)],
 (.seq (.reg [Qg 2 0,
Qf 3 false])
 (.seq (.reg [Qd 4 1,
Qb 5 2 2,
Qd 6 5,
sq 7 (.mget 0 false (.agg [dB false,dB false,dB false,dB false,dB false]) (.t 4) (.t 6)),
sq 8 (.field 0 none (.t 7)),
Qa 3 8])
 .ret))⟩
theorem F38_ok{x0 b1 r}(h:F38 x0 b1=some r):CallD Try.prog 38 [.agg (bOwner x0),.c (.pt 0 0)] [xb [.mref 1],some (.map (eMs (Value.int .i64) eTState b1))] (tupV [.c (dB ((((getM x0.Uid b1).getD ((⟨false,false,false,false,false⟩:TState)))).exists_))]) [xb [.mref 1],some (.map (eMs (Value.int .i64) eTState b1))]:=by
 rw[F38]at h
 refine zc a38 (by kernel_rfl) rfl (ww ?_)
 refine t_mgets (enc:=eTState) (l:=b1) (z:=(⟨false,false,false,false,false⟩:TState)) kkI rfl rfl rfl rfl (ww ?_)
 cases h
 exact eF [some 0,some 1]
def F40(x0:Owner)(b1:List (Int×TState)):Option (Bool):=(((if x0.Block=true then some ((((getM x0.Uid b1).getD ((⟨false,false,false,false,false⟩:TState)))).foreground)else some false)).bind fun o1=>some o1)
def a40:AFn:=⟨13,[(.tmp 3)],
 (.seq (.reg [Qg 2 0,
Qf 3 false])
 (.seq (.sem (.reg [Qb 4 4 2,
Qd 5 4,
Qa 6 5,
Qt 7 6 true 1,
Qs 8 6 true 2 2,
Qt 9 6 true 8,
zg 10 6 true (.mget 0 false (.agg [dB false,dB false,dB false,dB false,dB false]) (.t 7) (.t 9)),
zg 11 6 true (.field 2 none (.t 10)),
Qi 12 6 11,
Qa 3 12]))
 .ret))⟩
theorem F40_ok{x0 b1 r}(h:F40 x0 b1=some r):CallD Try.prog 40 [.agg (bOwner x0),.c (.pt 0 0)] [xb [.mref 1],some (.map (eMs (Value.int .i64) eTState b1))] (tupV [.c (dB r)]) [xb [.mref 1],some (.map (eMs (Value.int .i64) eTState b1))]:=by
 rw[F40]at h
 refine zc a40 (by kernel_rfl) rfl (ww ?_)
 obtain⟨o1,ho,h⟩:=bi h
 refine cutS (fun s=>s=⟨[(3,oc (dB o1))],[xb [.mref 1],some (.map (eMs (Value.int .i64) eTState b1))]⟩) ?_ ?_
 ·have h:=ho
  clear ho
  refine ww ?_
  refine guardSBh h (fun g2 h=>ww ?_) (fun g2 h=>ww ?_)
  ·refine t_mgets (enc:=eTState) (l:=b1) (z:=(⟨false,false,false,false,false⟩:TState)) kkI rfl rfl rfl rfl (ww ?_)
   cases h
   exact eM [some 0,some 1] rfl
  cases h
  exact eM [some 0,some 1] rfl
 rintro _ rfl
 clear ho
 refine ww ?_
 cases h
 exact eF [some 0,some 1]
def cF14a:AC:=(.reg [Qf 2 false])
def F14a(l:List Object):Option (Unit):=some (())
theorem F14a_ok{l r}(h:F14a l=some r):sK Try.prog 155 0 cF14a [] (sM 155 0 (fun s=>s=⟨[(0,oc (dM (l.map eObject)))],[]⟩) (xQ 155 0 (fun _ _=>False) (fun _=>False)))
 ⟨[(0,oc (dM (l.map eObject)))],[]⟩:=by
 rw[F14a]at h
 simp only[cF14a,VW.down,Nat.reduceEqDiff,reduceCtorEq,Nat.reduceAdd,Nat.reduceLeDiff,Nat.reduceLT,Nat.reduceBEq,Nat.reduceSub,EE.down]
 cases h
 exact eM [] rfl
def cF14c:AC:=(.reg [Qa 26 0,
Qh 27 26,
Qe 28 0])
def F14c(l:List Object)(ol:List (Int×D)):Option (Unit):=some (())
theorem F14c_ok{l ol r}(h:F14c l ol=some r):sK Try.prog 155 0 cF14c [] (sM 155 0 (fun s=>s=⟨[(0,oc (dM (l.map eObject))),(3,oc (.mref 0)),(26,oc (dM (l.map eObject))),(27,oc (dI ((l.length:Int)))),(28,oc (dI 0))],[some (.map (eM1 (Value.int .i64) (fun x=>x) ol))]⟩) (xQ 155 0 (fun _ _=>False) (fun _=>False)))
 ⟨[(0,oc (dM (l.map eObject))),(3,oc (.mref 0))],[some (.map (eM1 (Value.int .i64) (fun x=>x) ol))]⟩:=by
 rw[F14c]at h
 simp only[cF14c,VW.down,Nat.reduceEqDiff,reduceCtorEq,Nat.reduceAdd,Nat.reduceLeDiff,Nat.reduceLT,Nat.reduceBEq,Nat.reduceSub,EE.down]
 cases h
 exact eM [some 0] rfl
def cF14d:AC:=(.reg [Qn 29 28 27])
def F14d(l:List Object)(ol:List (Int×D))(i:Int):Option (Unit):=some (())
theorem F14d_ok{l ol i r}(h:F14d l ol i=some r):sK Try.prog 155 0 cF14d [] (sM 155 0 (fun s=>s=⟨[(0,oc (dM (l.map eObject))),(3,oc (.mref 0)),(26,oc (dM (l.map eObject))),(27,oc (dI ((l.length:Int)))),(28,oc (dI i)),(29,oc (dB (decide (i<(l.length:Int)))))],[some (.map (eM1 (Value.int .i64) (fun x=>x) ol))]⟩) (xQ 155 0 (fun _ _=>False) (fun _=>False)))
 ⟨[(0,oc (dM (l.map eObject))),(3,oc (.mref 0)),(26,oc (dM (l.map eObject))),(27,oc (dI ((l.length:Int)))),(28,oc (dI i))],[some (.map (eM1 (Value.int .i64) (fun x=>x) ol))]⟩:=by
 rw[F14d]at h
 simp only[cF14d,VW.down,Nat.reduceEqDiff,reduceCtorEq,Nat.reduceAdd,Nat.reduceLeDiff,Nat.reduceLT,Nat.reduceBEq,Nat.reduceSub,EE.down]
 cases h
 exact eM [some 0] rfl
def cF14e:AC:=(.reg [Qp 30 23 26 28,
Qc 31 23 30,
sq 5 (.zbox [dS ⟨#[]⟩,dS ⟨#[]⟩,dS ⟨#[]⟩,dI 0,dI 0,dI 0,dI 0,dB false,dI 0,dN,dN,dN,dN,dI 0,dI 0,dS ⟨#[]⟩,dN,dN,dI 0,dI 0,dS ⟨#[]⟩,dN,dN]),
su (.store 23 (.t 5) (.t 31))])
def F14e(l:List Object)(ol:List (Int×D))(i:Int):Option (Object):=(rdI l i).bind fun y1=>some y1
theorem F14e_ok{l ol i r}(h:F14e l ol i=some r):sK Try.prog 155 0 cF14e [] (sM 155 0 (fun s=>s=⟨[(0,oc (dM (l.map eObject))),(3,oc (.mref 0)),(5,Pz 1),(26,oc (dM (l.map eObject))),(27,oc (dI ((l.length:Int)))),(28,oc (dI i))],[some (.map (eM1 (Value.int .i64) (fun x=>x) ol)),xb (bObject (r))]⟩) (xQ 155 0 (fun _ _=>False) (fun _=>False)))
 ⟨[(0,oc (dM (l.map eObject))),(3,oc (.mref 0)),(26,oc (dM (l.map eObject))),(27,oc (dI ((l.length:Int)))),(28,oc (dI i))],[some (.map (eM1 (Value.int .i64) (fun x=>x) ol))]⟩:=by
 rw[F14e]at h
 simp only[cF14e,VW.down,Nat.reduceEqDiff,reduceCtorEq,Nat.reduceAdd,Nat.reduceLeDiff,Nat.reduceLT,Nat.reduceBEq,Nat.reduceSub,EE.down]
 obtain⟨y1,hy1,h⟩:=bi h
 refine t_idxF (enc:=eObject) (xs:=l) rfl rfl hy1 rfl (ww ?_)
 cases h
 exact eM [some 0,some 1] rfl
def cF14rp:AC:=(.regd [Qa 40 3,
Qb 41 0 5,
sd 42 (.fieldA 3 (.t 41)) [1],
sd 43 (.load none (.t 42)) [1,2],
Qa 44 3,
Qb 45 0 5,
sd 46 (.fieldA 3 (.t 45)) [5],
sd 47 (.load none (.t 46)) [5,6],
sd 48 (.mget 0 false (.c (dN)) (.t 44) (.t 47)) [4,5,6,7],
Qb 49 2 7,
sd 50 (.load none (.t 49)) [9],
zn 51 (.bslice 1 [(.t 50)]) [9,10] [9,10],
zl 52 (.app 1 8 (.t 48) (.t 51)) [4,5,6,7,8,9,10,11] [5,41,42]])
def F14rp(l:List Object)(R2:List (Value×A1))(i:Int)(o:Object)(k:Int)(x:Owner)(ws:List Int):Option (List Int):=(apI ws ([x.Uid])).bind fun a1=>some a1
theorem F14rp_ok{l:List Object}{R2:List (Value×A1)}{i:Int}{o:Object}{k:Int}{x:Owner}{ws:List Int}{r:List Int}{Q:XT→St→Prop}(hk:allK 0 R2=true)(hf:(mfind (.int .i64 o.Meta.Uid) R2).getD (.c (dN))= .c (.own 3 0 0 (ws.length) none))(h:F14rp l R2 i o k x ws=some r)(hQ:∀s':St,s'.heap=[some (.map R2),xb (bObject o),xb (bOwner x),some (.arr 1 1 (r.map eI)),some (.arr 0 1 (([x.Uid]).map eI))]→lk s'.slots 0=some (oc (dM (l.map eObject)))→lk s'.slots 3=some (oc (.mref 0))→lk s'.slots 5=some (Pz 1)→lk s'.slots 7=some (Pz 2)→lk s'.slots 26=some (oc (dM (l.map eObject)))→lk s'.slots 27=some (oc (dI ((l.length:Int))))→lk s'.slots 28=some (oc (dI i))→lk s'.slots 34=some (oc (dM (o.Meta.Owners.map eOwner)))→lk s'.slots 35=some (oc (dI ((o.Meta.Owners.length:Int))))→lk s'.slots 36=some (oc (dI k))→lk s'.slots 40=some (oc (.mref 0))→lk s'.slots 43=some (oc (dI o.Meta.Uid))→lk s'.slots 52=some (oc (.own 3 1 0 (r.length) none))→Q .normal s'):sK Try.prog 155 0 cF14rp [] Q
 ⟨[(0,oc (dM (l.map eObject))),(3,oc (.mref 0)),(5,Pz 1),(7,Pz 2),(26,oc (dM (l.map eObject))),(27,oc (dI ((l.length:Int)))),(28,oc (dI i)),(34,oc (dM (o.Meta.Owners.map eOwner))),(35,oc (dI ((o.Meta.Owners.length:Int)))),(36,oc (dI k))],[some (.map R2),xb (bObject o),xb (bOwner x),some (.arr 0 1 (ws.map eI))]⟩:=by
 rw[F14rp]at h
 simp only[cF14rp,VW.down,Nat.reduceEqDiff,reduceCtorEq,Nat.reduceAdd,Nat.reduceLeDiff,Nat.reduceLT,Nat.reduceBEq,Nat.reduceSub,EE.down]
 refine t_mgetR rfl rfl rfl hk hf (ww ?_)
 refine t_bslice (enc:=eI) (ys:=[x.Uid]) rfl rfl (by simp[A1.cells]) (by first|rfl|(simp only[List.drop_zero,take_mapL];rfl)|(simp only[lit,List.map_cons,List.map_nil,List.drop_zero,take_mapL,EE.down];done)|(simp only[lit,List.map_cons,List.map_nil,List.drop_zero,take_mapL,EE.down];rfl)) (ww ?_)
 refine kD_new (by simp[wrs,allW,hset]) (ww ?_)
 obtain⟨a1,ha1,h⟩:=bi h
 refine t_app (enc:=eI) (xs:=ws) rfl rfl (by first|rfl|simp only[List.length_set]|exact(clrL_len (slI_len (by assumption))).symm) rfl (rows_full (enc:=eI) (by first|rfl|simp only[List.length_set]|exact(clrL_len (slI_len (by assumption))).symm) rfl) ha1 (ww ?_)
 cases h
 exact hQ _ rfl rfl rfl rfl rfl rfl rfl rfl rfl rfl rfl rfl rfl rfl
def cF14i:AC:=(.reg [Qm 53 36 1,
Qa 36 53])
def F14i(l:List Object)(ol:List (Int×D))(i:Int)(o:Object)(k:Int):Option (Unit):=some (())
theorem F14i_ok{l ol i o k r}(h:F14i l ol i o k=some r):sK Try.prog 155 0 cF14i [] (sM 155 0 (fun s=>s=⟨[(0,oc (dM (l.map eObject))),(3,oc (.mref 0)),(5,Pz 1),(26,oc (dM (l.map eObject))),(27,oc (dI ((l.length:Int)))),(28,oc (dI i)),(34,oc (dM (o.Meta.Owners.map eOwner))),(35,oc (dI ((o.Meta.Owners.length:Int)))),(36,oc (dI ((IntKind.i64.wrap (k+1)))))],[some (.map (eM1 (Value.int .i64) (fun x=>x) ol)),xb (bObject o)]⟩) (xQ 155 0 (fun _ _=>False) (fun _=>False)))
 ⟨[(0,oc (dM (l.map eObject))),(3,oc (.mref 0)),(5,Pz 1),(26,oc (dM (l.map eObject))),(27,oc (dI ((l.length:Int)))),(28,oc (dI i)),(34,oc (dM (o.Meta.Owners.map eOwner))),(35,oc (dI ((o.Meta.Owners.length:Int)))),(36,oc (dI k))],[some (.map (eM1 (Value.int .i64) (fun x=>x) ol)),xb (bObject o)]⟩:=by
 rw[F14i]at h
 simp only[cF14i,VW.down,Nat.reduceEqDiff,reduceCtorEq,Nat.reduceAdd,Nat.reduceLeDiff,Nat.reduceLT,Nat.reduceBEq,Nat.reduceSub,EE.down]
 cases h
 exact eM [some 0,some 1] rfl
def cF14n2:AC:=(.reg [Qa 73 3,
Qa 74 11,
sq 75 (.mget 0 false (.c (dN)) (.t 73) (.t 74)),
Qh 76 75,
Qe 77 0])
def F14n2(om:List (Int×List Int))(mo:D)(it:D)(uid:Int):Option (Unit):=(noneM uid om).bind fun y1=>some (())
theorem F14n2_ok{om mo it uid r}(h:F14n2 om mo it uid=some r):sK Try.prog 155 0 cF14n2 [] (sM 155 0 (fun s=>s=⟨[(3,oc (.mref 0)),(8,oc (.d (mo))),(68,oc (.d (it))),(75,oc (dN)),(76,oc (dI 0)),(77,oc (dI 0))],[some (.map (eM1 (Value.int .i64) (fun x=> .sl (x.map eI)) om))]⟩) (xQ 155 0 (fun _ _=>False) (fun _=>False)))
 ⟨[(3,oc (.mref 0)),(8,oc (.d (mo))),(11,oc (dI uid)),(68,oc (.d (it)))],[some (.map (eM1 (Value.int .i64) (fun x=> .sl (x.map eI)) om))]⟩:=by
 rw[F14n2]at h
 simp only[cF14n2,VW.down,Nat.reduceEqDiff,reduceCtorEq,Nat.reduceAdd,Nat.reduceLeDiff,Nat.reduceLT,Nat.reduceBEq,Nat.reduceSub,EE.down]
 obtain⟨y1,hy1,h⟩:=bi h
 refine t_mget1N (enc:=(fun x=> .sl (x.map eI))) (l:=om) kkI rfl rfl rfl hy1 (ww ?_)
 cases h
 exact eM [some 0] rfl
def cF14p:AC:=(.reg [Qn 78 77 76])
def F14p(om:List (Int×List Int))(mo:D)(it:D)(ys:List Int)(k:Int):Option (Unit):=some (())
theorem F14p_ok{om mo it ys k r}(h:F14p om mo it ys k=some r):sK Try.prog 155 0 cF14p [] (sM 155 0 (fun s=>s=⟨[(3,oc (.mref 0)),(8,oc (.d (mo))),(68,oc (.d (it))),(75,oc (dM (ys.map eI))),(76,oc (dI ((ys.length:Int)))),(77,oc (dI k)),(78,oc (dB (decide (k<(ys.length:Int)))))],[some (.map (eM1 (Value.int .i64) (fun x=> .sl (x.map eI)) om))]⟩) (xQ 155 0 (fun _ _=>False) (fun _=>False)))
 ⟨[(3,oc (.mref 0)),(8,oc (.d (mo))),(68,oc (.d (it))),(75,oc (dM (ys.map eI))),(76,oc (dI ((ys.length:Int)))),(77,oc (dI k))],[some (.map (eM1 (Value.int .i64) (fun x=> .sl (x.map eI)) om))]⟩:=by
 rw[F14p]at h
 simp only[cF14p,VW.down,Nat.reduceEqDiff,reduceCtorEq,Nat.reduceAdd,Nat.reduceLeDiff,Nat.reduceLT,Nat.reduceBEq,Nat.reduceSub,EE.down]
 cases h
 exact eM [some 0] rfl
def cF14o:AC:=(.reg [Qp 79 1 75 77,
Qd 80 79,
Qa 13 80])
def F14o(om:List (Int×List Int))(mo:D)(it:D)(ys:List Int)(k:Int):Option (Int):=(rdI ys k).bind fun y1=>some y1
theorem F14o_ok{om mo it ys k r}(h:F14o om mo it ys k=some r):sK Try.prog 155 0 cF14o [] (sM 155 0 (fun s=>s=⟨[(3,oc (.mref 0)),(8,oc (.d (mo))),(13,oc (dI r)),(68,oc (.d (it))),(75,oc (dM (ys.map eI))),(76,oc (dI ((ys.length:Int)))),(77,oc (dI k))],[some (.map (eM1 (Value.int .i64) (fun x=> .sl (x.map eI)) om))]⟩) (xQ 155 0 (fun _ _=>False) (fun _=>False)))
 ⟨[(3,oc (.mref 0)),(8,oc (.d (mo))),(68,oc (.d (it))),(75,oc (dM (ys.map eI))),(76,oc (dI ((ys.length:Int)))),(77,oc (dI k))],[some (.map (eM1 (Value.int .i64) (fun x=> .sl (x.map eI)) om))]⟩:=by
 rw[F14o]at h
 simp only[cF14o,VW.down,Nat.reduceEqDiff,reduceCtorEq,Nat.reduceAdd,Nat.reduceLeDiff,Nat.reduceLT,Nat.reduceBEq,Nat.reduceSub,EE.down]
 obtain⟨y1,hy1,h⟩:=bi h
 refine t_idxF (enc:=eI) (xs:=ys) rfl rfl hy1 rfl (ww ?_)
 cases h
 exact eM [some 0] rfl
def cF14w:AC:=(.seq (.reg [Qa 106 16,
Qh 107 106,
sq 108 (.bin .gtr (.t 107) (kI 0))])
 (.cond (.t 108)
 .skip
 (.exit 12)))
def F14w(om:List (Int×List Int))(lm:List (Int×Int))(free:List Int)(dn:Int):Option ((Unit) ⊕ (Unit)):=(if 0<(free.length:Int)then some (Sum.inl (()))else some (Sum.inr (())))
theorem F14w_ok{om lm free dn r}(h:F14w om lm free dn=some r):sK Try.prog 155 0 cF14w [] (sM 155 0 (fun s=>∃o0,r=Sum.inl o0∧s=⟨[(3,oc (.mref 0)),(8,oc (.mref 1)),(16,oc (.own 2 0 0 (free.length) none)),(19,oc (dI dn))],[some (.map (eM1 (Value.int .i64) (fun x=> .sl (x.map eI)) om)),some (.map (eM1 (Value.int .i64) (fun x=> .v (.int .i64 x)) lm)),some (.arr 0 1 (free.map eI))]⟩) (xQ 155 0 (fun xi s=>xi=12∧∃o1,r=Sum.inr (o1)∧s=⟨[(8,oc (.mref 0)),(19,oc (dI dn))],[some (.map (eM1 (Value.int .i64) (fun x=> .v (.int .i64 x)) lm))]⟩) (fun _=>False)))
 ⟨[(3,oc (.mref 0)),(8,oc (.mref 1)),(16,oc (.own 2 0 0 (free.length) none)),(19,oc (dI dn))],[some (.map (eM1 (Value.int .i64) (fun x=> .sl (x.map eI)) om)),some (.map (eM1 (Value.int .i64) (fun x=> .v (.int .i64 x)) lm)),some (.arr 0 1 (free.map eI))]⟩:=by
 rw[F14w]at h
 simp only[cF14w,VW.down,Nat.reduceEqDiff,reduceCtorEq,Nat.reduceAdd,Nat.reduceLeDiff,Nat.reduceLT,Nat.reduceBEq,Nat.reduceSub,EE.down]
 refine condSh h (fun c1 h=>ww ?_) (fun c1 h=>?_)
 ·cases h
  exact eM [some 0,some 1,some 2] ⟨_,rfl,rfl⟩
 ·refine ww ?_
  cases h
  exact eX [some 1] ⟨rfl,_,rfl,rfl⟩
def cF14wb:AC:=(.reg [Qa 115 16,
Qa 116 16,
Qh 117 116,
sq 118 (.bin .sub (.t 117) (kI 1)),
sq 119 (.slice 1 (.t 115) none (some (.t 118)) none),
Qa 16 119])
def F14wb(om:List (Int×List Int))(lm:List (Int×Int))(free:List Int)(dn:Int)(uid:Int):Option ((List Int)):=(slI free 0 ((IntKind.i64.wrap (((free.length:Int))-1)))).bind fun s1=>some s1
theorem F14wb_ok{om lm free dn uid r}(h:F14wb om lm free dn uid=some r):sK Try.prog 155 0 cF14wb [] (sM 155 0 (fun s=>s=⟨[(3,oc (.mref 0)),(8,oc (.mref 1)),(16,oc (.own 2 0 0 (r.length) none)),(19,oc (dI dn)),(20,oc (dI uid))],[some (.map (eM1 (Value.int .i64) (fun x=> .sl (x.map eI)) om)),some (.map (eM1 (Value.int .i64) (fun x=> .v (.int .i64 x)) lm)),some (.arr 0 1 (r.map eI))]⟩) (xQ 155 0 (fun _ _=>False) (fun _=>False)))
 ⟨[(3,oc (.mref 0)),(8,oc (.mref 1)),(16,oc (.own 2 0 0 (free.length) none)),(19,oc (dI dn)),(20,oc (dI uid))],[some (.map (eM1 (Value.int .i64) (fun x=> .sl (x.map eI)) om)),some (.map (eM1 (Value.int .i64) (fun x=> .v (.int .i64 x)) lm)),some (.arr 0 1 (free.map eI))]⟩:=by
 rw[F14wb]at h
 simp only[cF14wb,VW.down,Nat.reduceEqDiff,reduceCtorEq,Nat.reduceAdd,Nat.reduceLeDiff,Nat.reduceLT,Nat.reduceBEq,Nat.reduceSub,EE.down]
 obtain⟨s1,hs1,h⟩:=bi h
 refine t_sliceO (enc:=eI) (xs:=free) rfl rfl (by first|rfl|simp only[List.length_set]|exact(clrL_len (slI_len (by assumption))).symm) rfl (by first|rfl|simp only[intV,List.length_set]) hs1 (ww ?_)
 cases h
 exact eM [some 0,some 1,some 2] rfl (hB:=by simp only[ZZ.down,Nat.reduceEqDiff,reduceCtorEq,Nat.reduceAdd,Nat.reduceLeDiff,Nat.reduceLT,Nat.reduceBNe,EE.down,slI_pre hs1,slI_frz0 hs1,slI_le0 hs1]) (hs:=by simp only[ZZ.down,Nat.reduceEqDiff,reduceCtorEq,Nat.reduceAdd,Nat.reduceLeDiff,Nat.reduceLT,Nat.reduceBNe,EE.down,slI_pre hs1,slI_frz0 hs1,slI_le0 hs1])
def cF14wd:AC:=(.reg [Qa 122 3,
Qa 123 20,
sq 124 (.mget 0 false (.c (dN)) (.t 122) (.t 123)),
Qh 125 124,
Qe 126 0])
def F14wd(om:List (Int×List Int))(lm:List (Int×Int))(free:List Int)(dn:Int)(uid:Int):Option (((List Int))×Int):=(getM uid om).bind fun y1=>some ((y1,(y1.length:Int)))
theorem F14wd_ok{om lm free dn uid r}(h:F14wd om lm free dn uid=some r):sK Try.prog 155 0 cF14wd [] (sM 155 0 (fun s=>s=⟨[(3,oc (.mref 0)),(8,oc (.mref 1)),(16,oc (.own 2 0 0 (free.length) none)),(19,oc (dI dn)),(124,oc (dM (r.1.map eI))),(125,oc (dI r.2)),(126,oc (dI 0))],[some (.map (eM1 (Value.int .i64) (fun x=> .sl (x.map eI)) om)),some (.map (eM1 (Value.int .i64) (fun x=> .v (.int .i64 x)) lm)),some (.arr 0 1 (free.map eI))]⟩) (xQ 155 0 (fun _ _=>False) (fun _=>False)))
 ⟨[(3,oc (.mref 0)),(8,oc (.mref 1)),(16,oc (.own 2 0 0 (free.length) none)),(19,oc (dI dn)),(20,oc (dI uid))],[some (.map (eM1 (Value.int .i64) (fun x=> .sl (x.map eI)) om)),some (.map (eM1 (Value.int .i64) (fun x=> .v (.int .i64 x)) lm)),some (.arr 0 1 (free.map eI))]⟩:=by
 rw[F14wd]at h
 simp only[cF14wd,VW.down,Nat.reduceEqDiff,reduceCtorEq,Nat.reduceAdd,Nat.reduceLeDiff,Nat.reduceLT,Nat.reduceBEq,Nat.reduceSub,EE.down]
 obtain⟨y1,hy1,h⟩:=bi h
 refine t_mget1E (enc:=(fun x=> .sl (x.map eI))) (l:=om) kkI rfl rfl rfl hy1 (ww ?_)
 cases h
 exact eM [some 0,some 1,some 2] rfl
end Go.Proofs.Ytdejhahgpojnoaa
