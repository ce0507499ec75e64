/- Each Go function as a function over typed data, and its walk. -/
import Derived.Test.YtdejhahgpojnoaaW0
namespace Go.Proofs.Ytdejhahgpojnoaa
open Go Go.Fw Go.Shelf
set_option maxRecDepth 100000
set_option maxHeartbeats 4000000
set_option linter.unusedSimpArgs false
set_option linter.unusedVariables false
def F39(x0:Owner)(b1:List (Int×TState)):Option (Unit):=some (())
def a39:AFn:=⟨9,[(.tmp 3)],
 (.seq (.reg [Qg 2 0,
Qf 3 false])
 (.seq (.reg [Qd 4 1,
Qb 5 2 2,
Qd 6 5,
sq 7 (.mget 0 false (.agg [dB false,dB false,dB false,dB false,dB false]) (.t 4) (.t 6)),
sq 8 (.field 1 none (.t 7)),
Qa 3 8])
 .ret))⟩
theorem F39_ok{x0 b1 r}(h:F39 x0 b1=some r):CallD Try.prog 39 [.agg (bOwner x0),.c (.pt 0 0)] [xb [.mref 1],some (.map (eMs (Value.int .i64) eTState b1))] (tupV [.c (dB ((((getM x0.Uid b1).getD ((⟨false,false,false,false,false⟩:TState)))).orphans))]) [xb [.mref 1],some (.map (eMs (Value.int .i64) eTState b1))]:=by
 rw[F39]at h
 refine zc a39 (by kernel_rfl) rfl (ww ?_)
 refine t_mgets (enc:=eTState) (l:=b1) (z:=(⟨false,false,false,false,false⟩:TState)) kkI rfl rfl rfl rfl (ww ?_)
 cases h
 exact eF [some 0,some 1]
def F40(x0:Owner)(b1:List (Int×TState)):Option (Bool):=(((if x0.Block=true then some ((((getM x0.Uid b1).getD ((⟨false,false,false,false,false⟩:TState)))).foreground)else some false)).bind fun o1=>some o1)
def a40:AFn:=⟨13,[(.tmp 3)],
 (.seq (.reg [Qg 2 0,
Qf 3 false])
 (.seq (.sem (.reg [Qb 4 4 2,
Qd 5 4,
Qa 6 5,
Qt 7 6 true 1,
Qs 8 6 true 2 2,
Qt 9 6 true 8,
zg 10 6 true (.mget 0 false (.agg [dB false,dB false,dB false,dB false,dB false]) (.t 7) (.t 9)),
zg 11 6 true (.field 2 none (.t 10)),
Qi 12 6 11,
Qa 3 12]))
 .ret))⟩
theorem F40_ok{x0 b1 r}(h:F40 x0 b1=some r):CallD Try.prog 40 [.agg (bOwner x0),.c (.pt 0 0)] [xb [.mref 1],some (.map (eMs (Value.int .i64) eTState b1))] (tupV [.c (dB r)]) [xb [.mref 1],some (.map (eMs (Value.int .i64) eTState b1))]:=by
 rw[F40]at h
 refine zc a40 (by kernel_rfl) rfl (ww ?_)
 obtain⟨o1,ho,h⟩:=bi h
 refine cutS (fun s=>s=⟨[(3,oc (dB o1))],[xb [.mref 1],some (.map (eMs (Value.int .i64) eTState b1))]⟩) ?_ ?_
 ·have h:=ho
  clear ho
  refine ww ?_
  refine guardSBh h (fun g2 h=>ww ?_) (fun g2 h=>ww ?_)
  ·refine t_mgets (enc:=eTState) (l:=b1) (z:=(⟨false,false,false,false,false⟩:TState)) kkI rfl rfl rfl rfl (ww ?_)
   cases h
   exact eM [some 0,some 1] rfl
  cases h
  exact eM [some 0,some 1] rfl
 rintro _ rfl
 clear ho
 refine ww ?_
 cases h
 exact eF [some 0,some 1]
def cF14a:AC:=(.reg [Qf 2 false])
def F14a(l:List Object):Option (Unit):=some (())
theorem F14a_ok{l r}(h:F14a l=some r):sK Try.prog 155 0 cF14a [] (sM 155 0 (fun s=>s=⟨[(0,oc (dM (l.map eObject)))],[]⟩) (xQ 155 0 (fun _ _=>False) (fun _=>False)))
 ⟨[(0,oc (dM (l.map eObject)))],[]⟩:=by
 rw[F14a]at h
 simp only[cF14a,VW.down,Nat.reduceEqDiff,reduceCtorEq,Nat.reduceAdd,Nat.reduceLeDiff,Nat.reduceLT,Nat.reduceBEq,Nat.reduceSub,EE.down]
 cases h
 exact eM [] rfl
def cF14b:AC:=(.reg [sq 25 (.mkmap),
Qa 3 25])
def F14b(l:List Object):Option (Unit):=some (())
theorem F14b_ok{l r}(h:F14b l=some r):sK Try.prog 155 0 cF14b [] (sM 155 0 (fun s=>s=⟨[(0,oc (dM (l.map eObject))),(3,oc (.mref 0))],[some (.map (eM1 (Value.int .i64) (fun x=> .sl (x.map eI)) ([]:List (Int×(List Int)))))]⟩) (xQ 155 0 (fun _ _=>False) (fun _=>False)))
 ⟨[(0,oc (dM (l.map eObject)))],[]⟩:=by
 rw[F14b]at h
 simp only[cF14b,VW.down,Nat.reduceEqDiff,reduceCtorEq,Nat.reduceAdd,Nat.reduceLeDiff,Nat.reduceLT,Nat.reduceBEq,Nat.reduceSub,EE.down]
 refine t_mkmap1 (κ:=Int) (α:=(List Int)) (enc:=(fun x=> .sl (x.map eI))) (Value.int .i64) (ww ?_)
 cases h
 exact eM [some 0] rfl
def cF14d:AC:=(.reg [Qn 29 28 27])
def F14d(l:List Object)(ol:List (Int×D))(i:Int):Option (Unit):=some (())
theorem F14d_ok{l ol i r}(h:F14d l ol i=some r):sK Try.prog 155 0 cF14d [] (sM 155 0 (fun s=>s=⟨[(0,oc (dM (l.map eObject))),(3,oc (.mref 0)),(26,oc (dM (l.map eObject))),(27,oc (dI ((l.length:Int)))),(28,oc (dI i)),(29,oc (dB (decide (i<(l.length:Int)))))],[some (.map (eM1 (Value.int .i64) (fun x=>x) ol))]⟩) (xQ 155 0 (fun _ _=>False) (fun _=>False)))
 ⟨[(0,oc (dM (l.map eObject))),(3,oc (.mref 0)),(26,oc (dM (l.map eObject))),(27,oc (dI ((l.length:Int)))),(28,oc (dI i))],[some (.map (eM1 (Value.int .i64) (fun x=>x) ol))]⟩:=by
 rw[F14d]at h
 simp only[cF14d,VW.down,Nat.reduceEqDiff,reduceCtorEq,Nat.reduceAdd,Nat.reduceLeDiff,Nat.reduceLT,Nat.reduceBEq,Nat.reduceSub,EE.down]
 cases h
 exact eM [some 0] rfl
def cF14e:AC:=(.reg [Qp 30 23 26 28,
Qc 31 23 30,
sq 5 (.zbox [dS ⟨#[]⟩,dS ⟨#[]⟩,dS ⟨#[]⟩,dI 0,dI 0,dI 0,dI 0,dB false,dI 0,dN,dN,dN,dN,dI 0,dI 0,dS ⟨#[]⟩,dN,dN,dI 0,dI 0,dS ⟨#[]⟩,dN,dN]),
su (.store 23 (.t 5) (.t 31))])
def F14e(l:List Object)(ol:List (Int×D))(i:Int):Option (Object):=(rdI l i).bind fun y1=>some y1
theorem F14e_ok{l ol i r}(h:F14e l ol i=some r):sK Try.prog 155 0 cF14e [] (sM 155 0 (fun s=>s=⟨[(0,oc (dM (l.map eObject))),(3,oc (.mref 0)),(5,Pz 1),(26,oc (dM (l.map eObject))),(27,oc (dI ((l.length:Int)))),(28,oc (dI i))],[some (.map (eM1 (Value.int .i64) (fun x=>x) ol)),xb (bObject (r))]⟩) (xQ 155 0 (fun _ _=>False) (fun _=>False)))
 ⟨[(0,oc (dM (l.map eObject))),(3,oc (.mref 0)),(26,oc (dM (l.map eObject))),(27,oc (dI ((l.length:Int)))),(28,oc (dI i))],[some (.map (eM1 (Value.int .i64) (fun x=>x) ol))]⟩:=by
 rw[F14e]at h
 simp only[cF14e,VW.down,Nat.reduceEqDiff,reduceCtorEq,Nat.reduceAdd,Nat.reduceLeDiff,Nat.reduceLT,Nat.reduceBEq,Nat.reduceSub,EE.down]
 obtain⟨y1,hy1,h⟩:=bi h
 refine t_idxF (enc:=eObject) (xs:=l) rfl rfl hy1 rfl (ww ?_)
 cases h
 exact eM [some 0,some 1] rfl
def cF14rn:AC:=(.regd [Qa 40 3,
Qb 41 0 5,
sd 42 (.fieldA 3 (.t 41)) [1],
sd 43 (.load none (.t 42)) [1,2],
Qa 44 3,
Qb 45 0 5,
sd 46 (.fieldA 3 (.t 45)) [5],
sd 47 (.load none (.t 46)) [5,6],
sd 48 (.mget 0 false (.c (dN)) (.t 44) (.t 47)) [4,5,6,7],
Qb 49 2 7,
sd 50 (.load none (.t 49)) [9],
zn 51 (.bslice 1 [(.t 50)]) [9,10] [9,10],
zl 52 (.app 1 8 (.t 48) (.t 51)) [4,5,6,7,8,9,10,11] [5,41,42]])
def F14rn(l:List Object)(R2:List (Value×A1))(i:Int)(o:Object)(k:Int)(x:Owner):Option (List Int):=(apI ([]:List Int) ([x.Uid])).bind fun a1=>some a1
theorem F14rn_ok{l:List Object}{R2:List (Value×A1)}{i:Int}{o:Object}{k:Int}{x:Owner}{r:List Int}{Q:XT→St→Prop}(hk:allK 0 R2=true)(hf:(mfind (.int .i64 o.Meta.Uid) R2).getD (.c (dN))= .c (dN))(h:F14rn l R2 i o k x=some r)(hQ:∀s':St,s'.heap=[some (.map R2),xb (bObject o),xb (bOwner x),some (.arr 0 1 (([x.Uid]).map eI)),some (.arr 0 1 (r.map eI))]→lk s'.slots 0=some (oc (dM (l.map eObject)))→lk s'.slots 3=some (oc (.mref 0))→lk s'.slots 5=some (Pz 1)→lk s'.slots 7=some (Pz 2)→lk s'.slots 26=some (oc (dM (l.map eObject)))→lk s'.slots 27=some (oc (dI ((l.length:Int))))→lk s'.slots 28=some (oc (dI i))→lk s'.slots 34=some (oc (dM (o.Meta.Owners.map eOwner)))→lk s'.slots 35=some (oc (dI ((o.Meta.Owners.length:Int))))→lk s'.slots 36=some (oc (dI k))→lk s'.slots 40=some (oc (.mref 0))→lk s'.slots 43=some (oc (dI o.Meta.Uid))→lk s'.slots 52=some (oc (.own 4 0 0 (r.length) none))→Q .normal s'):sK Try.prog 155 0 cF14rn [] Q
 ⟨[(0,oc (dM (l.map eObject))),(3,oc (.mref 0)),(5,Pz 1),(7,Pz 2),(26,oc (dM (l.map eObject))),(27,oc (dI ((l.length:Int)))),(28,oc (dI i)),(34,oc (dM (o.Meta.Owners.map eOwner))),(35,oc (dI ((o.Meta.Owners.length:Int)))),(36,oc (dI k))],[some (.map R2),xb (bObject o),xb (bOwner x)]⟩:=by
 rw[F14rn]at h
 simp only[cF14rn,VW.down,Nat.reduceEqDiff,reduceCtorEq,Nat.reduceAdd,Nat.reduceLeDiff,Nat.reduceLT,Nat.reduceBEq,Nat.reduceSub,EE.down]
 refine t_mgetR rfl rfl rfl hk hf (ww ?_)
 refine t_bslice (enc:=eI) (ys:=[x.Uid]) rfl rfl (by simp[A1.cells]) (by first|rfl|(simp only[List.drop_zero,take_mapL];rfl)|(simp only[lit,List.map_cons,List.map_nil,List.drop_zero,take_mapL,EE.down];done)|(simp only[lit,List.map_cons,List.map_nil,List.drop_zero,take_mapL,EE.down];rfl)) (ww ?_)
 refine kD_new (by simp[wrs,allW,hset]) (ww ?_)
 obtain⟨a1,ha1,h⟩:=bi h
 refine t_appN (enc:=eI) rfl rfl (rows_full (enc:=eI) (by first|rfl|simp only[List.length_set]|exact(clrL_len (slI_len (by assumption))).symm) rfl) ha1 (ww ?_)
 cases h
 exact hQ _ rfl rfl rfl rfl rfl rfl rfl rfl rfl rfl rfl rfl rfl rfl
def F14l_l1:List Object→Nat→(List (Int×Int))→Option ((List (Int×Int)))
 |[],o1_1,o1_0=>some o1_0
 |xo1::xs,o1_1,o1_0=>F14l_l1 xs (o1_1+1) ((putM xo1.Meta.Uid 0 o1_0))
def cF14l:AC:=(.seq (.reg [Qa 56 0,
Qh 57 56,
Qe 58 0])
 (.sem (.block 4 (.loop (.seq (.reg [Qn 59 58 57])
 (.seq (.cond (.t 59)
 .skip
 (.exit 4))
 (.seq (.block 5 (.seq (.reg [Qp 60 23 56 58,
Qc 61 23 60,
sq 10 (.zbox [dS ⟨#[]⟩,dS ⟨#[]⟩,dS ⟨#[]⟩,dI 0,dI 0,dI 0,dI 0,dB false,dI 0,dN,dN,dN,dN,dI 0,dI 0,dS ⟨#[]⟩,dN,dN,dI 0,dI 0,dS ⟨#[]⟩,dN,dN]),
su (.store 23 (.t 10) (.t 61))])
 (.reg [Qa 62 8,
Qb 63 0 10,
Qb 64 3 63,
Qd 65 64,
⟨none,none,.mset 0 (.t 62) (.t 65) (kI 0),[],(.lone [10,63,64])⟩])))
 (.reg [Qm 66 58 1,
Qa 58 66]))))))))
def F14l(l:List Object)(om:List (Int×List Int)):Option ((List (Int×Int))):=(((ck (0≤l.length∧l.length≤4294967290)).bind fun u3=>F14l_l1 l 0 ([])).bind fun o1=>some o1)
theorem F14l_ok{l om r}(h:F14l l om=some r):sK Try.prog 155 0 cF14l [] (sM 155 0 (fun s=>s=⟨[(3,oc (.mref 0)),(8,oc (.mref 1))],[some (.map (eM1 (Value.int .i64) (fun x=> .sl (x.map eI)) om)),some (.map (eM1 (Value.int .i64) (fun x=> .v (.int .i64 x)) r))]⟩) (xQ 155 0 (fun _ _=>False) (fun _=>False)))
 ⟨[(0,oc (dM (l.map eObject))),(3,oc (.mref 0)),(8,oc (.mref 1))],[some (.map (eM1 (Value.int .i64) (fun x=> .sl (x.map eI)) om)),some (.map (eM1 (Value.int .i64) (fun x=> .v (.int .i64 x)) ([]:List (Int×Int))))]⟩:=by
 rw[F14l]at h
 simp only[cF14l,VW.down,Nat.reduceEqDiff,reduceCtorEq,Nat.reduceAdd,Nat.reduceLeDiff,Nat.reduceLT,Nat.reduceBEq,Nat.reduceSub,EE.down]
 obtain⟨o1,ho,h⟩:=bi h
 refine cutS (fun s=>s=⟨[(3,oc (.mref 0)),(8,oc (.mref 1))],[some (.map (eM1 (Value.int .i64) (fun x=> .sl (x.map eI)) om)),some (.map (eM1 (Value.int .i64) (fun x=> .v (.int .i64 x)) o1))]⟩) ?_ ?_
 ·have h:=ho
  clear ho
  obtain⟨_,hk,h⟩:=bi h
  have hk:=ck_some hk
  refine ww ?_
  refine bL (fun j s=>∃(o1_1:Nat) (o1_0:List (Int×Int)),(o1_1≤l.length∧j=l.length-o1_1)∧s=⟨[(3,oc (.mref 0)),(8,oc (.mref 1)),(56,oc (dM (l.map eObject))),(57,oc (dI ((l.length:Int)))),(58,oc (dI ((o1_1:Int))))],[some (.map (eM1 (Value.int .i64) (fun x=> .sl (x.map eI)) om)),some (.map (eM1 (Value.int .i64) (fun x=> .v (.int .i64 x)) o1_0))]⟩∧F14l_l1 (l.drop o1_1) o1_1 o1_0=some o1) (l.length-0) [some 0,some 1] ⟨0,[],⟨hk.1,rfl⟩,rfl,h⟩ ?_
  rintro _ _ ⟨o1_1,o1_0,⟨hi,rfl⟩,rfl,h⟩
  refine ww ?_
  refine condS (fun c2=>?_) (fun c2=>?_)
  ·obtain⟨xo1,hxo1,hd⟩:=countY (show(o1_1:Int)<(l.length:Int)from c2)
   rw[hd,F14l_l1]at h
   refine ww ?_
   refine t_idxF (enc:=eObject) (xs:=l) rfl rfl hxo1 rfl (ww ?_)
   refine t_mset1 (enc:=(fun x=> .v (.int .i64 x))) (l:=o1_0) (x:=0) kkI rfl rfl rfl rfl (ww ?_)
   rw[wrapN (by omega)]
   exact eL' (l.length-(o1_1+1)) [some 0,some 1] ⟨o1_1+1,(putM xo1.Meta.Uid 0 o1_0),⟨by omega,rfl⟩,rfl,h⟩ (by omega)
  ·rw[countN (show¬((o1_1:Int)<(l.length:Int))from c2),F14l_l1]at h
   refine ww ?_
   cases h
   exact eM [some 0,some 1] rfl
 ·rintro _ rfl
  clear ho
  refine ww ?_
  cases h
  exact eM [some 0,some 1] rfl
def cF14p:AC:=(.reg [Qn 78 77 76])
def F14p(om:List (Int×List Int))(mo:D)(it:D)(ys:List Int)(k:Int):Option (Unit):=some (())
theorem F14p_ok{om mo it ys k r}(h:F14p om mo it ys k=some r):sK Try.prog 155 0 cF14p [] (sM 155 0 (fun s=>s=⟨[(3,oc (.mref 0)),(8,oc (.d (mo))),(68,oc (.d (it))),(75,oc (dM (ys.map eI))),(76,oc (dI ((ys.length:Int)))),(77,oc (dI k)),(78,oc (dB (decide (k<(ys.length:Int)))))],[some (.map (eM1 (Value.int .i64) (fun x=> .sl (x.map eI)) om))]⟩) (xQ 155 0 (fun _ _=>False) (fun _=>False)))
 ⟨[(3,oc (.mref 0)),(8,oc (.d (mo))),(68,oc (.d (it))),(75,oc (dM (ys.map eI))),(76,oc (dI ((ys.length:Int)))),(77,oc (dI k))],[some (.map (eM1 (Value.int .i64) (fun x=> .sl (x.map eI)) om))]⟩:=by
 rw[F14p]at h
 simp only[cF14p,VW.down,Nat.reduceEqDiff,reduceCtorEq,Nat.reduceAdd,Nat.reduceLeDiff,Nat.reduceLT,Nat.reduceBEq,Nat.reduceSub,EE.down]
 cases h
 exact eM [some 0] rfl
def cF14o:AC:=(.reg [Qp 79 1 75 77,
Qd 80 79,
Qa 13 80])
def F14o(om:List (Int×List Int))(mo:D)(it:D)(ys:List Int)(k:Int):Option (Int):=(rdI ys k).bind fun y1=>some y1
theorem F14o_ok{om mo it ys k r}(h:F14o om mo it ys k=some r):sK Try.prog 155 0 cF14o [] (sM 155 0 (fun s=>s=⟨[(3,oc (.mref 0)),(8,oc (.d (mo))),(13,oc (dI r)),(68,oc (.d (it))),(75,oc (dM (ys.map eI))),(76,oc (dI ((ys.length:Int)))),(77,oc (dI k))],[some (.map (eM1 (Value.int .i64) (fun x=> .sl (x.map eI)) om))]⟩) (xQ 155 0 (fun _ _=>False) (fun _=>False)))
 ⟨[(3,oc (.mref 0)),(8,oc (.d (mo))),(68,oc (.d (it))),(75,oc (dM (ys.map eI))),(76,oc (dI ((ys.length:Int)))),(77,oc (dI k))],[some (.map (eM1 (Value.int .i64) (fun x=> .sl (x.map eI)) om))]⟩:=by
 rw[F14o]at h
 simp only[cF14o,VW.down,Nat.reduceEqDiff,reduceCtorEq,Nat.reduceAdd,Nat.reduceLeDiff,Nat.reduceLT,Nat.reduceBEq,Nat.reduceSub,EE.down]
 obtain⟨y1,hy1,h⟩:=bi h
 refine t_idxF (enc:=eI) (xs:=ys) rfl rfl hy1 rfl (ww ?_)
 cases h
 exact eM [some 0] rfl
def cF14v:AC:=(.reg [Qe 19 0])
def F14v(om:List (Int×List Int))(lm:List (Int×Int))(free:List Int):Option (Unit):=some (())
theorem F14v_ok{om lm free r}(h:F14v om lm free=some r):sK Try.prog 155 0 cF14v [] (sM 155 0 (fun s=>s=⟨[(3,oc (.mref 0)),(8,oc (.mref 1)),(16,oc (.own 2 0 0 (free.length) none)),(19,oc (dI 0))],[some (.map (eM1 (Value.int .i64) (fun x=> .sl (x.map eI)) om)),some (.map (eM1 (Value.int .i64) (fun x=> .v (.int .i64 x)) lm)),some (.arr 0 1 (free.map eI))]⟩) (xQ 155 0 (fun _ _=>False) (fun _=>False)))
 ⟨[(3,oc (.mref 0)),(8,oc (.mref 1)),(16,oc (.own 2 0 0 (free.length) none))],[some (.map (eM1 (Value.int .i64) (fun x=> .sl (x.map eI)) om)),some (.map (eM1 (Value.int .i64) (fun x=> .v (.int .i64 x)) lm)),some (.arr 0 1 (free.map eI))]⟩:=by
 rw[F14v]at h
 simp only[cF14v,VW.down,Nat.reduceEqDiff,reduceCtorEq,Nat.reduceAdd,Nat.reduceLeDiff,Nat.reduceLT,Nat.reduceBEq,Nat.reduceSub,EE.down]
 cases h
 exact eM [some 0,some 1,some 2] rfl
def cF14w:AC:=(.seq (.reg [Qa 106 16,
Qh 107 106,
sq 108 (.bin .gtr (.t 107) (kI 0))])
 (.cond (.t 108)
 .skip
 (.exit 12)))
def F14w(om:List (Int×List Int))(lm:List (Int×Int))(free:List Int)(dn:Int):Option ((Unit) ⊕ (Unit)):=(if 0<(free.length:Int)then some (Sum.inl (()))else some (Sum.inr (())))
theorem F14w_ok{om lm free dn r}(h:F14w om lm free dn=some r):sK Try.prog 155 0 cF14w [] (sM 155 0 (fun s=>∃o0,r=Sum.inl o0∧s=⟨[(3,oc (.mref 0)),(8,oc (.mref 1)),(16,oc (.own 2 0 0 (free.length) none)),(19,oc (dI dn))],[some (.map (eM1 (Value.int .i64) (fun x=> .sl (x.map eI)) om)),some (.map (eM1 (Value.int .i64) (fun x=> .v (.int .i64 x)) lm)),some (.arr 0 1 (free.map eI))]⟩) (xQ 155 0 (fun xi s=>xi=12∧∃o1,r=Sum.inr (o1)∧s=⟨[(8,oc (.mref 0)),(19,oc (dI dn))],[some (.map (eM1 (Value.int .i64) (fun x=> .v (.int .i64 x)) lm))]⟩) (fun _=>False)))
 ⟨[(3,oc (.mref 0)),(8,oc (.mref 1)),(16,oc (.own 2 0 0 (free.length) none)),(19,oc (dI dn))],[some (.map (eM1 (Value.int .i64) (fun x=> .sl (x.map eI)) om)),some (.map (eM1 (Value.int .i64) (fun x=> .v (.int .i64 x)) lm)),some (.arr 0 1 (free.map eI))]⟩:=by
 rw[F14w]at h
 simp only[cF14w,VW.down,Nat.reduceEqDiff,reduceCtorEq,Nat.reduceAdd,Nat.reduceLeDiff,Nat.reduceLT,Nat.reduceBEq,Nat.reduceSub,EE.down]
 refine condSh h (fun c1 h=>ww ?_) (fun c1 h=>?_)
 ·cases h
  exact eM [some 0,some 1,some 2] ⟨_,rfl,rfl⟩
 ·refine ww ?_
  cases h
  exact eX [some 1] ⟨rfl,_,rfl,rfl⟩
def cF14wb:AC:=(.reg [Qa 115 16,
Qa 116 16,
Qh 117 116,
sq 118 (.bin .sub (.t 117) (kI 1)),
sq 119 (.slice 1 (.t 115) none (some (.t 118)) none),
Qa 16 119])
def F14wb(om:List (Int×List Int))(lm:List (Int×Int))(free:List Int)(dn:Int)(uid:Int):Option ((List Int)):=(slI free 0 ((IntKind.i64.wrap (((free.length:Int))-1)))).bind fun s1=>some s1
theorem F14wb_ok{om lm free dn uid r}(h:F14wb om lm free dn uid=some r):sK Try.prog 155 0 cF14wb [] (sM 155 0 (fun s=>s=⟨[(3,oc (.mref 0)),(8,oc (.mref 1)),(16,oc (.own 2 0 0 (r.length) none)),(19,oc (dI dn)),(20,oc (dI uid))],[some (.map (eM1 (Value.int .i64) (fun x=> .sl (x.map eI)) om)),some (.map (eM1 (Value.int .i64) (fun x=> .v (.int .i64 x)) lm)),some (.arr 0 1 (r.map eI))]⟩) (xQ 155 0 (fun _ _=>False) (fun _=>False)))
 ⟨[(3,oc (.mref 0)),(8,oc (.mref 1)),(16,oc (.own 2 0 0 (free.length) none)),(19,oc (dI dn)),(20,oc (dI uid))],[some (.map (eM1 (Value.int .i64) (fun x=> .sl (x.map eI)) om)),some (.map (eM1 (Value.int .i64) (fun x=> .v (.int .i64 x)) lm)),some (.arr 0 1 (free.map eI))]⟩:=by
 rw[F14wb]at h
 simp only[cF14wb,VW.down,Nat.reduceEqDiff,reduceCtorEq,Nat.reduceAdd,Nat.reduceLeDiff,Nat.reduceLT,Nat.reduceBEq,Nat.reduceSub,EE.down]
 obtain⟨s1,hs1,h⟩:=bi h
 refine t_sliceO (enc:=eI) (xs:=free) rfl rfl (by first|rfl|simp only[List.length_set]|exact(clrL_len (slI_len (by assumption))).symm) rfl (by first|rfl|simp only[intV,List.length_set]) hs1 (ww ?_)
 cases h
 exact eM [some 0,some 1,some 2] rfl (hB:=by simp only[ZZ.down,Nat.reduceEqDiff,reduceCtorEq,Nat.reduceAdd,Nat.reduceLeDiff,Nat.reduceLT,Nat.reduceBNe,EE.down,slI_pre hs1,slI_frz0 hs1,slI_le0 hs1]) (hs:=by simp only[ZZ.down,Nat.reduceEqDiff,reduceCtorEq,Nat.reduceAdd,Nat.reduceLeDiff,Nat.reduceLT,Nat.reduceBNe,EE.down,slI_pre hs1,slI_frz0 hs1,slI_le0 hs1])
def cF14wc:AC:=(.reg [Qa 120 19,
Qm 121 120 1,
Qa 19 121])
def F14wc(om:List (Int×List Int))(lm:List (Int×Int))(free:List Int)(dn:Int)(uid:Int):Option (Unit):=some (())
theorem F14wc_ok{om lm free dn uid r}(h:F14wc om lm free dn uid=some r):sK Try.prog 155 0 cF14wc [] (sM 155 0 (fun s=>s=⟨[(3,oc (.mref 0)),(8,oc (.mref 1)),(16,oc (.own 2 0 0 (free.length) none)),(19,oc (dI ((IntKind.i64.wrap (dn+1))))),(20,oc (dI uid))],[some (.map (eM1 (Value.int .i64) (fun x=> .sl (x.map eI)) om)),some (.map (eM1 (Value.int .i64) (fun x=> .v (.int .i64 x)) lm)),some (.arr 0 1 (free.map eI))]⟩) (xQ 155 0 (fun _ _=>False) (fun _=>False)))
 ⟨[(3,oc (.mref 0)),(8,oc (.mref 1)),(16,oc (.own 2 0 0 (free.length) none)),(19,oc (dI dn)),(20,oc (dI uid))],[some (.map (eM1 (Value.int .i64) (fun x=> .sl (x.map eI)) om)),some (.map (eM1 (Value.int .i64) (fun x=> .v (.int .i64 x)) lm)),some (.arr 0 1 (free.map eI))]⟩:=by
 rw[F14wc]at h
 simp only[cF14wc,VW.down,Nat.reduceEqDiff,reduceCtorEq,Nat.reduceAdd,Nat.reduceLeDiff,Nat.reduceLT,Nat.reduceBEq,Nat.reduceSub,EE.down]
 cases h
 exact eM [some 0,some 1,some 2] rfl
def cF14wd:AC:=(.reg [Qa 122 3,
Qa 123 20,
sq 124 (.mget 0 false (.c (dN)) (.t 122) (.t 123)),
Qh 125 124,
Qe 126 0])
def F14wd(om:List (Int×List Int))(lm:List (Int×Int))(free:List Int)(dn:Int)(uid:Int):Option (((List Int))×Int):=(getM uid om).bind fun y1=>some ((y1,(y1.length:Int)))
theorem F14wd_ok{om lm free dn uid r}(h:F14wd om lm free dn uid=some r):sK Try.prog 155 0 cF14wd [] (sM 155 0 (fun s=>s=⟨[(3,oc (.mref 0)),(8,oc (.mref 1)),(16,oc (.own 2 0 0 (free.length) none)),(19,oc (dI dn)),(124,oc (dM (r.1.map eI))),(125,oc (dI r.2)),(126,oc (dI 0))],[some (.map (eM1 (Value.int .i64) (fun x=> .sl (x.map eI)) om)),some (.map (eM1 (Value.int .i64) (fun x=> .v (.int .i64 x)) lm)),some (.arr 0 1 (free.map eI))]⟩) (xQ 155 0 (fun _ _=>False) (fun _=>False)))
 ⟨[(3,oc (.mref 0)),(8,oc (.mref 1)),(16,oc (.own 2 0 0 (free.length) none)),(19,oc (dI dn)),(20,oc (dI uid))],[some (.map (eM1 (Value.int .i64) (fun x=> .sl (x.map eI)) om)),some (.map (eM1 (Value.int .i64) (fun x=> .v (.int .i64 x)) lm)),some (.arr 0 1 (free.map eI))]⟩:=by
 rw[F14wd]at h
 simp only[cF14wd,VW.down,Nat.reduceEqDiff,reduceCtorEq,Nat.reduceAdd,Nat.reduceLeDiff,Nat.reduceLT,Nat.reduceBEq,Nat.reduceSub,EE.down]
 obtain⟨y1,hy1,h⟩:=bi h
 refine t_mget1E (enc:=(fun x=> .sl (x.map eI))) (l:=om) kkI rfl rfl rfl hy1 (ww ?_)
 cases h
 exact eM [some 0,some 1,some 2] rfl
def F53_l1(x1:ByteArray):List ByteArray→Nat→(List ByteArray)→Bool→Option ((List ByteArray)×Bool)
 |[],o1_2,o1_0,o1_1=>some ((o1_0,o1_1))
 |xo1::xs,o1_2,o1_0,o1_1=>(((((((if(nb o1_1)=true then some ((Op.bytesLess x1.toList xo1.toList||decide (x1=xo1)))else some false)).bind fun o5=>(if o5=true then(apI o1_0 ([x1])).bind fun a8=>some ((a8,true))else some ((o1_0,o1_1))))).bind fun o4=>(if¬(xo1=x1)then(apI o4.1 ([xo1])).bind fun a10=>some ((a10,o4.2))else some ((o4.1,o4.2))))).bind fun o3=>F53_l1 x1 xs (o1_2+1) o3.1 o3.2)
def F53(x0:(List ByteArray))(x1:ByteArray):Option ((List ByteArray)):=(((ck (0≤x0.length∧x0.length≤4294967290)).bind fun u11=>F53_l1 x1 x0 0 ([]) false).bind fun o1=>(if(nb o1.2)=true then(apI o1.1 ([x1])).bind fun a13=>some a13 else some o1.1))
def a53:AFn:=⟨48,[(.tmp 4)],
 (.seq (.reg [sq 4 (.mv kN)])
 (.seq (.reg [sq 5 (.mv kN)])
 (.seq (.reg [Qf 6 false])
 (.seq (.seq (.reg [Qe 7 0])
 (.sem (.block 0 (.loop (.seq (.seq (.reg [Qa 8 7,
Qa 9 0,
Qh 10 9,
Qn 11 8 10])
 (.cond (.t 11)
 .skip
 (.exit 0)))
 (.seq (.sem (.block 1 (.seq (.sem (.seq (.sem (.reg [Qa 14 6,
Qq 15 14,
Qa 16 15,
Qv 17 16 true 1,
Qv 18 16 true 0,
Qv 19 16 true 7,
zg 20 16 true (.indexA 1 (.t 18) (.t 19)),
Qt 21 16 true 20,
zg 22 16 true (.bin .leq (.t 17) (.t 21)),
zl 23 (.pick (.t 16) (.t 22) (kB false)) [] [18,20]]))
 (.cond (.t 23)
 (.seq (.reg [Qa 24 5,
Qa 25 1,
sq 26 (.bslice 1 [(.t 25)]),
sq 27 (.app 1 16 (.t 24) (.t 26)),
Qa 5 27])
 (.reg [Qf 6 true]))
 .skip)))
 (.seq (.reg [Qa 28 0,
Qa 29 7,
Qp 30 1 28 29,
Qd 31 30,
Qa 32 1,
sq 33 (.bin .neq (.t 31) (.t 32))])
 (.cond (.t 33)
 (.reg [Qa 34 5,
Qa 35 0,
Qa 36 7,
Qp 37 1 35 36,
Qd 38 37,
sq 39 (.bslice 1 [(.t 38)]),
sq 40 (.app 1 16 (.t 34) (.t 39)),
Qa 5 40])
 .skip)))))
 (.reg [Qa 12 7,
Qm 13 12 1,
Qa 7 13])))))))
 (.seq (.seq (.reg [Qa 41 6,
Qq 42 41])
 (.cond (.t 42)
 (.reg [Qa 43 5,
Qa 44 1,
sq 45 (.bslice 1 [(.t 44)]),
sq 46 (.app 1 16 (.t 43) (.t 45)),
Qa 5 46])
 .skip))
 (.seq (.reg [Qa 47 5,
Qa 4 47])
 .ret))))))⟩
theorem F53_ok{x0 x1 r}(h:F53 x0 x1=some r):CallD Try.prog 53 [.c (dM (x0.map eS)),.c (dS x1)] [] (tupV [.c (.own 0 0 0 (r.length) none)]) [some (.arr 0 1 (r.map eS))]:=by
 rw[F53]at h
 refine zc a53 (by kernel_rfl) rfl (ww ?_)
 obtain⟨o1,ho,h⟩:=bi h
 refine cutS (fun s=>s=⟨[(1,oc (dS x1)),(5,oc (.own 0 0 0 (o1.1.length) none)),(6,oc (dB o1.2))],[some (.arr 0 1 (o1.1.map eS))]⟩) ?_ ?_
 ·have h:=ho
  clear ho
  obtain⟨_,hk,h⟩:=bi h
  have hk:=ck_some hk
  refine ww ?_
  refine bL (fun j s=>∃(o1_2:Nat) (o1_0:List ByteArray) (o1_1:Bool),(o1_2≤x0.length∧j=x0.length-o1_2)∧s=⟨[(0,oc (dM (x0.map eS))),(1,oc (dS x1)),(5,oc (.own 0 0 0 (o1_0.length) none)),(6,oc (dB o1_1)),(7,oc (dI ((o1_2:Int))))],[some (.arr 0 1 (o1_0.map eS))]⟩∧F53_l1 x1 (x0.drop o1_2) o1_2 o1_0 o1_1=some o1) (x0.length-0) [none] ⟨0,[],false,⟨hk.1,rfl⟩,rfl,h⟩ ?_
  rintro _ _ ⟨o1_2,o1_0,o1_1,⟨hi,rfl⟩,rfl,h⟩
  refine ww ?_
  refine condS (fun c2=>?_) (fun c2=>?_)
  ·obtain⟨xo1,hxo1,hd⟩:=countY (show(o1_2:Int)<(x0.length:Int)from c2)
   rw[hd,F53_l1]at h
   refine ww ?_
   obtain⟨o3,ho,h⟩:=bi h
   refine cutS (fun s=>s=⟨[(0,oc (dM (x0.map eS))),(1,oc (dS x1)),(5,oc (.own 0 0 0 (o3.1.length) none)),(6,oc (dB o3.2)),(7,oc (dI ((o1_2:Int))))],[some (.arr 0 1 (o3.1.map eS))]⟩) ?_ ?_
   ·have h:=ho
    clear ho
    refine ww ?_
    obtain⟨o4,ho,h⟩:=bi h
    refine cutS (fun s=>s=⟨[(0,oc (dM (x0.map eS))),(1,oc (dS x1)),(5,oc (.own 0 0 0 (o4.1.length) none)),(6,oc (dB o4.2)),(7,oc (dI ((o1_2:Int))))],[some (.arr 0 1 (o4.1.map eS))]⟩) ?_ ?_
    ·have h:=ho
     clear ho
     refine ww ?_
     obtain⟨o5,ho,h⟩:=bi h
     refine cutS (fun s=>s=⟨[(0,oc (dM (x0.map eS))),(1,oc (dS x1)),(5,oc (.own 0 0 0 (o1_0.length) none)),(6,oc (dB o1_1)),(7,oc (dI ((o1_2:Int)))),(23,oc (dB o5))],[some (.arr 0 1 (o1_0.map eS))]⟩) ?_ ?_
     ·have h:=ho
      clear ho
      refine ww ?_
      refine guardSBh h (fun g6 h=>ww ?_) (fun g6 h=>ww ?_)
      ·refine t_idxF (enc:=eS) (xs:=x0) rfl rfl hxo1 rfl (ww ?_)
       cases h
       exact eM [some 0] rfl
      cases h
      exact eM [some 0] rfl
     rintro _ rfl
     clear ho
     refine ww ?_
     refine condBh h (fun c7 h=>ww ?_) (fun c7 h=>ww ?_)
     ·refine t_bslice (enc:=eS) (ys:=[x1]) rfl rfl (by simp[A1.cells]) (by first|rfl|(simp only[List.drop_zero,take_mapL];rfl)|(simp only[lit,List.map_cons,List.map_nil,List.drop_zero,take_mapL,EE.down];done)|(simp only[lit,List.map_cons,List.map_nil,List.drop_zero,take_mapL,EE.down];rfl)) (ww ?_)
      obtain⟨a8,ha8,h⟩:=bi h
      refine t_app (enc:=eS) (xs:=o1_0) rfl rfl (by first|rfl|simp only[List.length_set]|exact(clrL_len (slI_len (by assumption))).symm) rfl (rows_full (enc:=eS) (by first|rfl|simp only[List.length_set]|exact(clrL_len (slI_len (by assumption))).symm) rfl) ha8 (ww ?_)
      cases h
      exact eM [some 0] rfl
     cases h
     exact eM [some 0] rfl
    rintro _ rfl
    clear ho
    refine ww ?_
    refine t_idxF (enc:=eS) (xs:=x0) rfl rfl hxo1 rfl (ww ?_)
    refine condSh h (fun c9 h=>ww ?_) (fun c9 h=>ww ?_)
    ·refine t_idxF (enc:=eS) (xs:=x0) rfl rfl hxo1 rfl (ww ?_)
     refine t_bslice (enc:=eS) (ys:=[xo1]) rfl rfl (by simp[A1.cells]) (by first|rfl|(simp only[List.drop_zero,take_mapL];rfl)|(simp only[lit,List.map_cons,List.map_nil,List.drop_zero,take_mapL,EE.down];done)|(simp only[lit,List.map_cons,List.map_nil,List.drop_zero,take_mapL,EE.down];rfl)) (ww ?_)
     obtain⟨a10,ha10,h⟩:=bi h
     refine t_app (enc:=eS) (xs:=o4.1) rfl rfl (by first|rfl|simp only[List.length_set]|exact(clrL_len (slI_len (by assumption))).symm) rfl (rows_full (enc:=eS) (by first|rfl|simp only[List.length_set]|exact(clrL_len (slI_len (by assumption))).symm) rfl) ha10 (ww ?_)
     cases h
     exact eM [some 0] rfl
    cases h
    exact eM [some 0] rfl
   rintro _ rfl
   clear ho
   refine ww ?_
   rw[wrapN (by omega)]
   exact eL' (x0.length-(o1_2+1)) [some 0] ⟨o1_2+1,o3.1,o3.2,⟨by omega,rfl⟩,rfl,h⟩ (by omega)
  rw[countN (show¬((o1_2:Int)<(x0.length:Int))from c2),F53_l1]at h
  refine ww ?_
  cases h
  exact eM [some 0] rfl
 rintro _ rfl
 clear ho
 refine ww ?_
 refine condBh h (fun c12 h=>ww ?_) (fun c12 h=>ww ?_)
 ·refine t_bslice (enc:=eS) (ys:=[x1]) rfl rfl (by simp[A1.cells]) (by first|rfl|(simp only[List.drop_zero,take_mapL];rfl)|(simp only[lit,List.map_cons,List.map_nil,List.drop_zero,take_mapL,EE.down];done)|(simp only[lit,List.map_cons,List.map_nil,List.drop_zero,take_mapL,EE.down];rfl)) (ww ?_)
  obtain⟨a13,ha13,h⟩:=bi h
  refine t_app (enc:=eS) (xs:=o1.1) rfl rfl (by first|rfl|simp only[List.length_set]|exact(clrL_len (slI_len (by assumption))).symm) rfl (rows_full (enc:=eS) (by first|rfl|simp only[List.length_set]|exact(clrL_len (slI_len (by assumption))).symm) rfl) ha13 (ww ?_)
  cases h
  exact eF [some 0]
 cases h
 exact eF [some 0]
end Go.Proofs.Ytdejhahgpojnoaa
