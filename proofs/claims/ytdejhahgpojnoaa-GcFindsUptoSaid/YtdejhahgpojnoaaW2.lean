/- Each Go function as a function over typed data, and its walk. -/
import Derived.Test.YtdejhahgpojnoaaW0
namespace Go.Proofs.Ytdejhahgpojnoaa
open Go Go.Fw Go.Shelf
set_option maxRecDepth 100000
set_option maxHeartbeats 4000000
set_option linter.unusedSimpArgs false
set_option linter.unusedVariables false
def F7_l1:List Object→Nat→Option ((Bool) ⊕ (Unit))
 |[],o1_0=>some (Sum.inr (()))
 |xo1::xs,o1_0=>(((if 20<(xo1.Meta.Owners.length:Int)then some true else some (decide (20<(xo1.Meta.Finalizers.length:Int))))).bind fun o3=>(if o3=true then(some true).map Sum.inl else F7_l1 xs (o1_0+1)))
def F7(x0:(List Object)):Option (Bool):=(((ck (0≤x0.length∧x0.length≤4294967290)).bind fun u6=>F7_l1 x0 0:Option ((Bool) ⊕ (Unit))).bind fun o1=>match o1 with|Sum.inl f=>some f|Sum.inr po1=>some (decide (24<(x0.length:Int))))
def a7:AFn:=⟨31,[(.tmp 2)],
 (.seq (.reg [Qf 2 false])
 (.seq (.seq (.reg [Qe 3 0])
 (.sem (.block 0 (.loop (.seq (.seq (.reg [Qa 4 3,
Qa 5 0,
Qh 6 5,
Qn 7 4 6])
 (.cond (.t 7)
 .skip
 (.exit 0)))
 (.seq (.block 1 (.seq (.sem (.reg [Qa 10 0,
Qa 11 3,
Qp 12 23 10 11,
Qb 13 0 12,
Qb 14 10 13,
Qd 15 14,
Qh 16 15,
sq 17 (.bin .gtr (.t 16) (kI 20)),
Qa 18 17,
Qv 19 18 false 0,
Qv 20 18 false 3,
zg 21 18 false (.indexA 23 (.t 19) (.t 20)),
Qs 22 18 false 0 21,
Qs 23 18 false 11 22,
Qt 24 18 false 23,
zg 25 18 false (.len (.t 24)),
zg 26 18 false (.bin .gtr (.t 25) (kI 20)),
zl 27 (.pick (.t 18) (kB true) (.t 26)) [] [10,12,13,14,15,19,21,22,23,24]]))
 (.cond (.t 27)
 (.seq (.reg [Qf 2 true])
 .ret)
 .skip)))
 (.reg [Qa 8 3,
Qm 9 8 1,
Qa 3 9])))))))
 (.seq (.reg [Qa 28 0,
Qh 29 28,
sq 30 (.bin .gtr (.t 29) (kI 24)),
Qa 2 30])
 .ret)))⟩
theorem F7_ok{x0 r}(h:F7 x0=some r):CallD Try.prog 7 [.c (dM (x0.map eObject))] [] (tupV [.c (dB r)]) []:=by
 rw[F7]at h
 refine zc a7 (by kernel_rfl) rfl (ww ?_)
 obtain⟨o1,ho,h⟩:=bi h
 refine cutS (fun s=>∃po1,o1=Sum.inr po1∧s=⟨[(0,oc (dM (x0.map eObject)))],[]⟩) ?_ ?_
 ·have h0o1:=h
  have h:=ho
  clear ho
  obtain⟨_,hk,h⟩:=bi h
  have hk:=ck_some hk
  refine ww ?_
  refine bL (fun j s=>∃(o1_0:Nat),(o1_0≤x0.length∧j=x0.length-o1_0)∧s=⟨[(0,oc (dM (x0.map eObject))),(3,oc (dI ((o1_0:Int))))],[]⟩∧F7_l1 (x0.drop o1_0) o1_0=some o1) (x0.length-0) [] ⟨0,⟨hk.1,rfl⟩,rfl,h⟩ ?_
  rintro _ _ ⟨o1_0,⟨hi,rfl⟩,rfl,h⟩
  refine ww ?_
  refine condS (fun c2=>?_) (fun c2=>?_)
  ·obtain⟨xo1,hxo1,hd⟩:=countY (show(o1_0:Int)<(x0.length:Int)from c2)
   rw[hd,F7_l1]at h
   refine ww ?_
   obtain⟨o3,ho,h⟩:=bi h
   refine cutS (fun s=>s=⟨[(0,oc (dM (x0.map eObject))),(3,oc (dI ((o1_0:Int)))),(27,oc (dB o3))],[]⟩) ?_ ?_
   ·have h:=ho
    clear ho
    refine ww ?_
    refine t_idxF (enc:=eObject) (xs:=x0) rfl rfl hxo1 rfl (ww ?_)
    refine guardSh h (fun g4 h=>ww ?_) (fun g4 h=>ww ?_)
    ·cases h
     exact eM [] rfl
    refine t_idxF (enc:=eObject) (xs:=x0) rfl rfl hxo1 rfl (ww ?_)
    cases h
    exact eM [] rfl
   rintro _ rfl
   clear ho
   refine ww ?_
   refine condBh h (fun c5 h=>ww ?_) (fun c5 h=>ww ?_)
   ·obtain⟨fh0o1,hfh0o1,rfl⟩:=Option.map_eq_some_iff.1 h
    have h:=hfh0o1.trans h0o1
    cases h
    exact eF []
   rw[wrapN (by omega)]
   exact eL' (x0.length-(o1_0+1)) [] ⟨o1_0+1,⟨by omega,rfl⟩,rfl,h⟩ (by omega)
  rw[countN (show¬((o1_0:Int)<(x0.length:Int))from c2),F7_l1]at h
  refine ww ?_
  cases h
  exact eM [] ⟨_,rfl,rfl⟩
 rintro _ ⟨po1,rfl,rfl⟩
 clear ho
 dsimp only at h
 refine ww ?_
 cases h
 exact eF []
def F18(x0:ByteArray)(x1:Int)(x2:(List Owner)):Option (Unit):=some (())
def a18:AFn:=⟨12,[(.cell 6 (some 23))],
 (.seq (.reg [zl 6 (.zbox [dS ⟨#[]⟩,dS ⟨#[]⟩,dS ⟨#[]⟩,dI 0,dI 0,dI 0,dI 0,dB false,dI 0,dN,dN,dN,dN,dI 0,dI 0,dS ⟨#[]⟩,dN,dN,dI 0,dI 0,dS ⟨#[]⟩,dN,dN]) [] []])
 (.seq (.reg [Qa 7 0,
Qa 8 1,
Qa 9 2,
sq 10 (.build [dS ⟨#[]⟩,dS ⟨#[]⟩,dS ⟨#[]⟩,dI 0,dI 0,dI 0,dI 0,dB false,dI 0,dN,dN,dN,dN] [(0,1,(kS ⟨#[80,111,100]⟩)),(2,1,(.t 7)),(3,1,(.t 8)),(10,1,(.t 9))]),
sq 11 (.build [dS ⟨#[]⟩,dS ⟨#[]⟩,dS ⟨#[]⟩,dI 0,dI 0,dI 0,dI 0,dB false,dI 0,dN,dN,dN,dN,dI 0,dI 0,dS ⟨#[]⟩,dN,dN,dI 0,dI 0,dS ⟨#[]⟩,dN,dN] [(0,13,(.t 10))]),
su (.store 23 (.t 6) (.t 11))])
 .ret))⟩
theorem F18_ok{x0 x1 x2 r}(h:F18 x0 x1 x2=some r):CallD Try.prog 18 [.c (dS x0),.c (dI x1),.c (dM (x2.map eOwner))] [] (tupV [.agg [dS ((⟨#[80,111,100]⟩:ByteArray)),dS ((⟨#[]⟩:ByteArray)),dS x0,dI x1,dI 0,dI 0,dI 0,dB false,dI 0,dM (([]:List Label).map eLabel),dM (x2.map eOwner),dM (([]:List ByteArray).map eS),dM (([]:List Manager).map eManager),dI 0,dI 0,dS ((⟨#[]⟩:ByteArray)),dM (([]:List TValue).map eTValue),dM (([]:List TField).map eTField),dI 0,dI 0,dS ((⟨#[]⟩:ByteArray)),dM (([]:List TValue).map eTValue),dM (([]:List TField).map eTField)]]) []:=by
 rw[F18]at h
 refine zc a18 (by kernel_rfl) rfl (ww ?_)
 cases h
 exact eF []
def F38(x0:Owner)(b1:List (Int×TState)):Option (Unit):=some (())
def a38:AFn:=⟨9,[(.tmp 3)],
 (.seq (.reg [Qg 2 0,
Qf 3 false])
 (.seq (.reg [Qd 4 1,
Qb 5 2 2,
Qd 6 5,
sq 7 (.mget 0 false (.agg [dB false,dB false,dB false,dB false,dB false]) (.t 4) (.t 6)),
sq 8 (.field 0 none (.t 7)),
Qa 3 8])
 .ret))⟩
theorem F38_ok{x0 b1 r}(h:F38 x0 b1=some r):CallD Try.prog 38 [.agg (bOwner x0),.c (.pt 0 0)] [xb [.mref 1],some (.map (eMs (Value.int .i64) eTState b1))] (tupV [.c (dB ((((getM x0.Uid b1).getD ((⟨false,false,false,false,false⟩:TState)))).exists_))]) [xb [.mref 1],some (.map (eMs (Value.int .i64) eTState b1))]:=by
 rw[F38]at h
 refine zc a38 (by kernel_rfl) rfl (ww ?_)
 refine t_mgets (enc:=eTState) (l:=b1) (z:=(⟨false,false,false,false,false⟩:TState)) kkI rfl rfl rfl rfl (ww ?_)
 cases h
 exact eF [some 0,some 1]
noncomputable def fn58:Func:=(Try.prog.funcs[58]?).getD default
theorem fn58_ok:Try.prog.funcs[58]? =some fn58:=by kernel_rfl
theorem F58_ok{a b:ByteArray}{r:Int}(h:cmpS a b=some r):CallD Try.prog 58 [.c (dS a),.c (dS b)] [] (tupV [.c (dI r)]) []:=L_cmp fn58_ok (by kernel_rfl) (by kernel_rfl) (by kernel_rfl) (by kernel_rfl) h
def F48(x0:Owner)(b0:Int)(b1:Bool):Option (Bool):=(((if x0.Uid=b0 then(if x0.Block=true then some true else some (nb b1))else some false)).bind fun o1=>some o1)
def a48:AFn:=⟨17,[(.tmp 4)],
 (.seq (.reg [Qg 3 0,
Qf 4 false])
 (.seq (.sem (.reg [Qb 5 2 3,
Qd 6 5,
Qd 7 1,
sq 8 (.bin .eql (.t 6) (.t 7)),
Qa 9 8,
Qs 10 9 true 4 3,
Qt 11 9 true 10,
Qv 12 9 true 11,
Qt 13 12 false 2,
zg 14 12 false (.not (.t 13)),
zg 15 9 true (.pick (.t 12) (kB true) (.t 14)),
Qi 16 9 15,
Qa 4 16]))
 .ret))⟩
theorem F48_ok{x0 b0 b1 r}(h:F48 x0 b0 b1=some r):CallD Try.prog 48 [.agg (bOwner x0),.c (.pt 0 0),.c (.pt 1 0)] [xb [dI b0],xb [dB b1]] (tupV [.c (dB r)]) [xb [dI b0],xb [dB b1]]:=by
 rw[F48]at h
 refine zc a48 (by kernel_rfl) rfl (ww ?_)
 obtain⟨o1,ho,h⟩:=bi h
 refine cutS (fun s=>s=⟨[(4,oc (dB o1))],[xb [dI b0],xb [dB b1]]⟩) ?_ ?_
 ·have h:=ho
  clear ho
  refine ww ?_
  refine guardSh h (fun g2 h=>ww ?_) (fun g2 h=>ww ?_)
  ·refine guardSBh h (fun g3 h=>ww ?_) (fun g3 h=>ww ?_)
   ·cases h
    exact eM [some 0,some 1] rfl
   cases h
   exact eM [some 0,some 1] rfl
  cases h
  exact eM [some 0,some 1] rfl
 rintro _ rfl
 clear ho
 refine ww ?_
 cases h
 exact eF [some 0,some 1]
def cF14c:AC:=(.reg [Qa 26 0,
Qh 27 26,
Qe 28 0])
def F14c(l:List Object)(ol:List (Int×D)):Option (Unit):=some (())
theorem F14c_ok{l ol r}(h:F14c l ol=some r):sK Try.prog 155 0 cF14c [] (sM 155 0 (fun s=>s=⟨[(0,oc (dM (l.map eObject))),(3,oc (.mref 0)),(26,oc (dM (l.map eObject))),(27,oc (dI ((l.length:Int)))),(28,oc (dI 0))],[some (.map (eM1 (Value.int .i64) (fun x=>x) ol))]⟩) (xQ 155 0 (fun _ _=>False) (fun _=>False)))
 ⟨[(0,oc (dM (l.map eObject))),(3,oc (.mref 0))],[some (.map (eM1 (Value.int .i64) (fun x=>x) ol))]⟩:=by
 rw[F14c]at h
 simp only[cF14c,VW.down,Nat.reduceEqDiff,reduceCtorEq,Nat.reduceAdd,Nat.reduceLeDiff,Nat.reduceLT,Nat.reduceBEq,Nat.reduceSub,EE.down]
 cases h
 exact eM [some 0] rfl
def cF14f:AC:=(.reg [Qb 32 0 5,
Qb 33 10 32,
Qd 34 33,
Qh 35 34,
Qe 36 0])
def F14f(l:List Object)(ol:List (Int×D))(i:Int)(o:Object):Option (Unit):=some (())
theorem F14f_ok{l ol i o r}(h:F14f l ol i o=some r):sK Try.prog 155 0 cF14f [] (sM 155 0 (fun s=>s=⟨[(0,oc (dM (l.map eObject))),(3,oc (.mref 0)),(5,Pz 1),(26,oc (dM (l.map eObject))),(27,oc (dI ((l.length:Int)))),(28,oc (dI i)),(34,oc (dM (o.Meta.Owners.map eOwner))),(35,oc (dI ((o.Meta.Owners.length:Int)))),(36,oc (dI 0))],[some (.map (eM1 (Value.int .i64) (fun x=>x) ol)),xb (bObject o)]⟩) (xQ 155 0 (fun _ _=>False) (fun _=>False)))
 ⟨[(0,oc (dM (l.map eObject))),(3,oc (.mref 0)),(5,Pz 1),(26,oc (dM (l.map eObject))),(27,oc (dI ((l.length:Int)))),(28,oc (dI i))],[some (.map (eM1 (Value.int .i64) (fun x=>x) ol)),xb (bObject o)]⟩:=by
 rw[F14f]at h
 simp only[cF14f,VW.down,Nat.reduceEqDiff,reduceCtorEq,Nat.reduceAdd,Nat.reduceLeDiff,Nat.reduceLT,Nat.reduceBEq,Nat.reduceSub,EE.down]
 cases h
 exact eM [some 0,some 1] rfl
def cF14h:AC:=(.reg [Qp 38 5 34 36,
Qc 39 5 38,
sq 7 (.zbox [dS ⟨#[]⟩,dS ⟨#[]⟩,dI 0,dB false,dB false]),
su (.store 5 (.t 7) (.t 39))])
def F14h(l:List Object)(ol:List (Int×D))(i:Int)(o:Object)(k:Int):Option (Owner):=(rdI o.Meta.Owners k).bind fun y1=>some y1
theorem F14h_ok{l ol i o k r}(h:F14h l ol i o k=some r):sK Try.prog 155 0 cF14h [] (sM 155 0 (fun s=>s=⟨[(0,oc (dM (l.map eObject))),(3,oc (.mref 0)),(5,Pz 1),(7,Pz 2),(26,oc (dM (l.map eObject))),(27,oc (dI ((l.length:Int)))),(28,oc (dI i)),(34,oc (dM (o.Meta.Owners.map eOwner))),(35,oc (dI ((o.Meta.Owners.length:Int)))),(36,oc (dI k))],[some (.map (eM1 (Value.int .i64) (fun x=>x) ol)),xb (bObject o),xb (bOwner (r))]⟩) (xQ 155 0 (fun _ _=>False) (fun _=>False)))
 ⟨[(0,oc (dM (l.map eObject))),(3,oc (.mref 0)),(5,Pz 1),(26,oc (dM (l.map eObject))),(27,oc (dI ((l.length:Int)))),(28,oc (dI i)),(34,oc (dM (o.Meta.Owners.map eOwner))),(35,oc (dI ((o.Meta.Owners.length:Int)))),(36,oc (dI k))],[some (.map (eM1 (Value.int .i64) (fun x=>x) ol)),xb (bObject o)]⟩:=by
 rw[F14h]at h
 simp only[cF14h,VW.down,Nat.reduceEqDiff,reduceCtorEq,Nat.reduceAdd,Nat.reduceLeDiff,Nat.reduceLT,Nat.reduceBEq,Nat.reduceSub,EE.down]
 obtain⟨y1,hy1,h⟩:=bi h
 refine t_idxF (enc:=eOwner) (xs:=o.Meta.Owners) rfl rfl hy1 rfl (ww ?_)
 cases h
 exact eM [some 0,some 1,some 2] rfl
def cF14rp:AC:=(.regd [Qa 40 3,
Qb 41 0 5,
sd 42 (.fieldA 3 (.t 41)) [1],
sd 43 (.load none (.t 42)) [1,2],
Qa 44 3,
Qb 45 0 5,
sd 46 (.fieldA 3 (.t 45)) [5],
sd 47 (.load none (.t 46)) [5,6],
sd 48 (.mget 0 false (.c (dN)) (.t 44) (.t 47)) [4,5,6,7],
Qb 49 2 7,
sd 50 (.load none (.t 49)) [9],
zn 51 (.bslice 1 [(.t 50)]) [9,10] [9,10],
zl 52 (.app 1 8 (.t 48) (.t 51)) [4,5,6,7,8,9,10,11] [5,41,42]])
def F14rp(l:List Object)(R2:List (Value×A1))(i:Int)(o:Object)(k:Int)(x:Owner)(ws:List Int):Option (List Int):=(apI ws ([x.Uid])).bind fun a1=>some a1
theorem F14rp_ok{l:List Object}{R2:List (Value×A1)}{i:Int}{o:Object}{k:Int}{x:Owner}{ws:List Int}{r:List Int}{Q:XT→St→Prop}(hk:allK 0 R2=true)(hf:(mfind (.int .i64 o.Meta.Uid) R2).getD (.c (dN))= .c (.own 3 0 0 (ws.length) none))(h:F14rp l R2 i o k x ws=some r)(hQ:∀s':St,s'.heap=[some (.map R2),xb (bObject o),xb (bOwner x),some (.arr 1 1 (r.map eI)),some (.arr 0 1 (([x.Uid]).map eI))]→lk s'.slots 0=some (oc (dM (l.map eObject)))→lk s'.slots 3=some (oc (.mref 0))→lk s'.slots 5=some (Pz 1)→lk s'.slots 7=some (Pz 2)→lk s'.slots 26=some (oc (dM (l.map eObject)))→lk s'.slots 27=some (oc (dI ((l.length:Int))))→lk s'.slots 28=some (oc (dI i))→lk s'.slots 34=some (oc (dM (o.Meta.Owners.map eOwner)))→lk s'.slots 35=some (oc (dI ((o.Meta.Owners.length:Int))))→lk s'.slots 36=some (oc (dI k))→lk s'.slots 40=some (oc (.mref 0))→lk s'.slots 43=some (oc (dI o.Meta.Uid))→lk s'.slots 52=some (oc (.own 3 1 0 (r.length) none))→Q .normal s'):sK Try.prog 155 0 cF14rp [] Q
 ⟨[(0,oc (dM (l.map eObject))),(3,oc (.mref 0)),(5,Pz 1),(7,Pz 2),(26,oc (dM (l.map eObject))),(27,oc (dI ((l.length:Int)))),(28,oc (dI i)),(34,oc (dM (o.Meta.Owners.map eOwner))),(35,oc (dI ((o.Meta.Owners.length:Int)))),(36,oc (dI k))],[some (.map R2),xb (bObject o),xb (bOwner x),some (.arr 0 1 (ws.map eI))]⟩:=by
 rw[F14rp]at h
 simp only[cF14rp,VW.down,Nat.reduceEqDiff,reduceCtorEq,Nat.reduceAdd,Nat.reduceLeDiff,Nat.reduceLT,Nat.reduceBEq,Nat.reduceSub,EE.down]
 refine t_mgetR rfl rfl rfl hk hf (ww ?_)
 refine t_bslice (enc:=eI) (ys:=[x.Uid]) rfl rfl (by simp[A1.cells]) (by first|rfl|(simp only[List.drop_zero,take_mapL];rfl)|(simp only[lit,List.map_cons,List.map_nil,List.drop_zero,take_mapL,EE.down];done)|(simp only[lit,List.map_cons,List.map_nil,List.drop_zero,take_mapL,EE.down];rfl)) (ww ?_)
 refine kD_new (by simp[wrs,allW,hset]) (ww ?_)
 obtain⟨a1,ha1,h⟩:=bi h
 refine t_app (enc:=eI) (xs:=ws) rfl rfl (by first|rfl|simp only[List.length_set]|exact(clrL_len (slI_len (by assumption))).symm) rfl (rows_full (enc:=eI) (by first|rfl|simp only[List.length_set]|exact(clrL_len (slI_len (by assumption))).symm) rfl) ha1 (ww ?_)
 cases h
 exact hQ _ rfl rfl rfl rfl rfl rfl rfl rfl rfl rfl rfl rfl rfl rfl
def cF14i:AC:=(.reg [Qm 53 36 1,
Qa 36 53])
def F14i(l:List Object)(ol:List (Int×D))(i:Int)(o:Object)(k:Int):Option (Unit):=some (())
theorem F14i_ok{l ol i o k r}(h:F14i l ol i o k=some r):sK Try.prog 155 0 cF14i [] (sM 155 0 (fun s=>s=⟨[(0,oc (dM (l.map eObject))),(3,oc (.mref 0)),(5,Pz 1),(26,oc (dM (l.map eObject))),(27,oc (dI ((l.length:Int)))),(28,oc (dI i)),(34,oc (dM (o.Meta.Owners.map eOwner))),(35,oc (dI ((o.Meta.Owners.length:Int)))),(36,oc (dI ((IntKind.i64.wrap (k+1)))))],[some (.map (eM1 (Value.int .i64) (fun x=>x) ol)),xb (bObject o)]⟩) (xQ 155 0 (fun _ _=>False) (fun _=>False)))
 ⟨[(0,oc (dM (l.map eObject))),(3,oc (.mref 0)),(5,Pz 1),(26,oc (dM (l.map eObject))),(27,oc (dI ((l.length:Int)))),(28,oc (dI i)),(34,oc (dM (o.Meta.Owners.map eOwner))),(35,oc (dI ((o.Meta.Owners.length:Int)))),(36,oc (dI k))],[some (.map (eM1 (Value.int .i64) (fun x=>x) ol)),xb (bObject o)]⟩:=by
 rw[F14i]at h
 simp only[cF14i,VW.down,Nat.reduceEqDiff,reduceCtorEq,Nat.reduceAdd,Nat.reduceLeDiff,Nat.reduceLT,Nat.reduceBEq,Nat.reduceSub,EE.down]
 cases h
 exact eM [some 0,some 1] rfl
def cF14j:AC:=(.reg [Qm 54 28 1,
Qa 28 54])
def F14j(l:List Object)(ol:List (Int×D))(i:Int):Option (Unit):=some (())
theorem F14j_ok{l ol i r}(h:F14j l ol i=some r):sK Try.prog 155 0 cF14j [] (sM 155 0 (fun s=>s=⟨[(0,oc (dM (l.map eObject))),(3,oc (.mref 0)),(26,oc (dM (l.map eObject))),(27,oc (dI ((l.length:Int)))),(28,oc (dI ((IntKind.i64.wrap (i+1)))))],[some (.map (eM1 (Value.int .i64) (fun x=>x) ol))]⟩) (xQ 155 0 (fun _ _=>False) (fun _=>False)))
 ⟨[(0,oc (dM (l.map eObject))),(3,oc (.mref 0)),(26,oc (dM (l.map eObject))),(27,oc (dI ((l.length:Int)))),(28,oc (dI i))],[some (.map (eM1 (Value.int .i64) (fun x=>x) ol))]⟩:=by
 rw[F14j]at h
 simp only[cF14j,VW.down,Nat.reduceEqDiff,reduceCtorEq,Nat.reduceAdd,Nat.reduceLeDiff,Nat.reduceLT,Nat.reduceBEq,Nat.reduceSub,EE.down]
 cases h
 exact eM [some 0] rfl
def cF14n2:AC:=(.reg [Qa 73 3,
Qa 74 11,
sq 75 (.mget 0 false (.c (dN)) (.t 73) (.t 74)),
Qh 76 75,
Qe 77 0])
def F14n2(om:List (Int×List Int))(mo:D)(it:D)(uid:Int):Option (Unit):=(noneM uid om).bind fun y1=>some (())
theorem F14n2_ok{om mo it uid r}(h:F14n2 om mo it uid=some r):sK Try.prog 155 0 cF14n2 [] (sM 155 0 (fun s=>s=⟨[(3,oc (.mref 0)),(8,oc (.d (mo))),(68,oc (.d (it))),(75,oc (dN)),(76,oc (dI 0)),(77,oc (dI 0))],[some (.map (eM1 (Value.int .i64) (fun x=> .sl (x.map eI)) om))]⟩) (xQ 155 0 (fun _ _=>False) (fun _=>False)))
 ⟨[(3,oc (.mref 0)),(8,oc (.d (mo))),(11,oc (dI uid)),(68,oc (.d (it)))],[some (.map (eM1 (Value.int .i64) (fun x=> .sl (x.map eI)) om))]⟩:=by
 rw[F14n2]at h
 simp only[cF14n2,VW.down,Nat.reduceEqDiff,reduceCtorEq,Nat.reduceAdd,Nat.reduceLeDiff,Nat.reduceLT,Nat.reduceBEq,Nat.reduceSub,EE.down]
 obtain⟨y1,hy1,h⟩:=bi h
 refine t_mget1N (enc:=(fun x=> .sl (x.map eI))) (l:=om) kkI rfl rfl rfl hy1 (ww ?_)
 cases h
 exact eM [some 0] rfl
def cF14q:AC:=(.reg [Qm 92 77 1,
Qa 77 92])
def F14q(om:List (Int×List Int))(mo:D)(it:D)(ys:List Int)(k:Int):Option (Unit):=some (())
theorem F14q_ok{om mo it ys k r}(h:F14q om mo it ys k=some r):sK Try.prog 155 0 cF14q [] (sM 155 0 (fun s=>s=⟨[(3,oc (.mref 0)),(8,oc (.d (mo))),(68,oc (.d (it))),(75,oc (dM (ys.map eI))),(76,oc (dI ((ys.length:Int)))),(77,oc (dI ((IntKind.i64.wrap (k+1)))))],[some (.map (eM1 (Value.int .i64) (fun x=> .sl (x.map eI)) om))]⟩) (xQ 155 0 (fun _ _=>False) (fun _=>False)))
 ⟨[(3,oc (.mref 0)),(8,oc (.d (mo))),(68,oc (.d (it))),(75,oc (dM (ys.map eI))),(76,oc (dI ((ys.length:Int)))),(77,oc (dI k))],[some (.map (eM1 (Value.int .i64) (fun x=> .sl (x.map eI)) om))]⟩:=by
 rw[F14q]at h
 simp only[cF14q,VW.down,Nat.reduceEqDiff,reduceCtorEq,Nat.reduceAdd,Nat.reduceLeDiff,Nat.reduceLT,Nat.reduceBEq,Nat.reduceSub,EE.down]
 cases h
 exact eM [some 0] rfl
def F14wf_l1:List Int→Nat→(List (Int×Int))→(List Int)→Option ((List (Int×Int))×(List Int))
 |[],o1_2,o1_0,o1_1=>some ((o1_0,o1_1))
 |xo1::xs,o1_2,o1_0,o1_1=>(((if(nb ((getM xo1 o1_0).isSome))=true then some ((o1_0,o1_1))else(if((getM xo1 ((putM xo1 ((IntKind.i64.wrap ((((getM xo1 o1_0).getD ((0:Int))))-1))) o1_0))).getD ((0:Int)))=0 then(apI o1_1 ([xo1])).bind fun a6=>some (((putM xo1 ((IntKind.i64.wrap ((((getM xo1 o1_0).getD ((0:Int))))-1))) o1_0),a6))else some (((putM xo1 ((IntKind.i64.wrap ((((getM xo1 o1_0).getD ((0:Int))))-1))) o1_0),o1_1))))).bind fun o3=>F14wf_l1 xs (o1_2+1) o3.1 o3.2)
def cF14wf:AC:=(.sem (.block 14 (.loop (.seq (.reg [Qn 127 126 125])
 (.seq (.cond (.t 127)
 .skip
 (.exit 14))
 (.seq (.sem (.block 15 (.seq (.reg [Qp 128 1 124 126,
Qd 129 128,
Qa 22 129])
 (.seq (.seq (.reg [Qa 131 8,
Qa 132 22,
sq 133 (.mget 0 true (.c (dI 0)) (.t 131) (.t 132)),
Qa 130 133,
Qo 134 130 0,
Qo 135 130 1,
Qa 23 134,
Qa 24 135])
 (.seq (.reg [Qa 136 24,
Qq 137 136])
 (.cond (.t 137)
 (.exit 15)
 .skip)))
 (.seq (.reg [Qa 138 8,
Qa 139 22,
sq 140 (.mget 0 false (.c (dI 0)) (.t 138) (.t 139)),
sq 141 (.bin .sub (.t 140) (kI 1)),
su (.mset 0 (.t 138) (.t 139) (.t 141))])
 (.seq (.reg [Qa 142 8,
Qa 143 22,
sq 144 (.mget 0 false (.c (dI 0)) (.t 142) (.t 143)),
Qr 145 144 0])
 (.cond (.t 145)
 (.reg [Qa 146 16,
Qa 147 22,
sq 148 (.bslice 1 [(.t 147)]),
sq 149 (.app 1 8 (.t 146) (.t 148)),
Qa 16 149])
 .skip)))))))
 (.reg [Qm 150 126 1,
Qa 126 150])))))))
def F14wf(om:List (Int×List Int))(lm:List (Int×Int))(free:List Int)(dn:Int)(ys:List Int):Option ((List (Int×Int))×(List Int)):=(((ck (0≤ys.length∧ys.length≤4294967290)).bind fun u7=>F14wf_l1 ys 0 lm free).bind fun o1=>some ((o1.1,o1.2)))
theorem F14wf_ok{om lm free dn ys r}(h:F14wf om lm free dn ys=some r):sK Try.prog 155 0 cF14wf [] (sM 155 0 (fun s=>s=⟨[(3,oc (.mref 0)),(8,oc (.mref 1)),(16,oc (.own 2 0 0 (r.2.length) none)),(19,oc (dI dn))],[some (.map (eM1 (Value.int .i64) (fun x=> .sl (x.map eI)) om)),some (.map (eM1 (Value.int .i64) (fun x=> .v (.int .i64 x)) r.1)),some (.arr 0 1 (r.2.map eI))]⟩) (xQ 155 0 (fun _ _=>False) (fun _=>False)))
 ⟨[(3,oc (.mref 0)),(8,oc (.mref 1)),(16,oc (.own 2 0 0 (free.length) none)),(19,oc (dI dn)),(124,oc (dM (ys.map eI))),(125,oc (dI ((ys.length:Int)))),(126,oc (dI 0))],[some (.map (eM1 (Value.int .i64) (fun x=> .sl (x.map eI)) om)),some (.map (eM1 (Value.int .i64) (fun x=> .v (.int .i64 x)) lm)),some (.arr 0 1 (free.map eI))]⟩:=by
 rw[F14wf]at h
 simp only[cF14wf,VW.down,Nat.reduceEqDiff,reduceCtorEq,Nat.reduceAdd,Nat.reduceLeDiff,Nat.reduceLT,Nat.reduceBEq,Nat.reduceSub,EE.down]
 obtain⟨o1,ho,h⟩:=bi h
 refine cutS (fun s=>s=⟨[(3,oc (.mref 0)),(8,oc (.mref 1)),(16,oc (.own 2 0 0 (o1.2.length) none)),(19,oc (dI dn))],[some (.map (eM1 (Value.int .i64) (fun x=> .sl (x.map eI)) om)),some (.map (eM1 (Value.int .i64) (fun x=> .v (.int .i64 x)) o1.1)),some (.arr 0 1 (o1.2.map eI))]⟩) ?_ ?_
 ·have h:=ho
  clear ho
  obtain⟨_,hk,h⟩:=bi h
  have hk:=ck_some hk
  refine ww ?_
  refine bL (fun j s=>∃(o1_2:Nat) (o1_0:List (Int×Int)) (o1_1:List Int),(o1_2≤ys.length∧j=ys.length-o1_2)∧s=⟨[(3,oc (.mref 0)),(8,oc (.mref 1)),(16,oc (.own 2 0 0 (o1_1.length) none)),(19,oc (dI dn)),(124,oc (dM (ys.map eI))),(125,oc (dI ((ys.length:Int)))),(126,oc (dI ((o1_2:Int))))],[some (.map (eM1 (Value.int .i64) (fun x=> .sl (x.map eI)) om)),some (.map (eM1 (Value.int .i64) (fun x=> .v (.int .i64 x)) o1_0)),some (.arr 0 1 (o1_1.map eI))]⟩∧F14wf_l1 (ys.drop o1_2) o1_2 o1_0 o1_1=some o1) (ys.length-0) [some 0,some 1,some 2] ⟨0,lm,free,⟨hk.1,rfl⟩,rfl,h⟩ ?_
  rintro _ _ ⟨o1_2,o1_0,o1_1,⟨hi,rfl⟩,rfl,h⟩
  refine ww ?_
  refine condS (fun c2=>?_) (fun c2=>?_)
  ·obtain⟨xo1,hxo1,hd⟩:=countY (show(o1_2:Int)<(ys.length:Int)from c2)
   rw[hd,F14wf_l1]at h
   refine ww ?_
   obtain⟨o3,ho,h⟩:=bi h
   refine cutS (fun s=>s=⟨[(3,oc (.mref 0)),(8,oc (.mref 1)),(16,oc (.own 2 0 0 (o3.2.length) none)),(19,oc (dI dn)),(124,oc (dM (ys.map eI))),(125,oc (dI ((ys.length:Int)))),(126,oc (dI ((o1_2:Int))))],[some (.map (eM1 (Value.int .i64) (fun x=> .sl (x.map eI)) om)),some (.map (eM1 (Value.int .i64) (fun x=> .v (.int .i64 x)) o3.1)),some (.arr 0 1 (o3.2.map eI))]⟩) ?_ ?_
   ·have h:=ho
    clear ho
    refine ww ?_
    refine t_idxF (enc:=eI) (xs:=ys) rfl rfl hxo1 rfl (ww ?_)
    refine t_mget1k (enc:=(fun x=> .v (.int .i64 x))) (l:=o1_0) (z:=(0:Int)) kkI rfl rfl rfl rfl (ww ?_)
    refine condBh h (fun c4 h=>ww ?_) (fun c4 h=>?_)
    ·cases h
     exact eM [some 0,some 1,some 2] rfl
    ·refine ww ?_
     refine t_mget1 (enc:=(fun x=> .v (.int .i64 x))) (l:=o1_0) (z:=(0:Int)) kkI rfl rfl rfl rfl (ww ?_)
     refine t_mset1 (enc:=(fun x=> .v (.int .i64 x))) (l:=o1_0) (x:=(IntKind.i64.wrap ((((getM xo1 o1_0).getD ((0:Int))))-1))) kkI rfl rfl rfl rfl (ww ?_)
     refine t_mget1 (enc:=(fun x=> .v (.int .i64 x))) (l:=((putM xo1 ((IntKind.i64.wrap ((((getM xo1 o1_0).getD ((0:Int))))-1))) o1_0))) (z:=(0:Int)) kkI rfl rfl rfl rfl (ww ?_)
     refine condSh h (fun c5 h=>ww ?_) (fun c5 h=>?_)
     ·refine t_bslice (enc:=eI) (ys:=[xo1]) rfl rfl (by simp[A1.cells]) (by first|rfl|(simp only[List.drop_zero,take_mapL];rfl)|(simp only[lit,List.map_cons,List.map_nil,List.drop_zero,take_mapL,EE.down];done)|(simp only[lit,List.map_cons,List.map_nil,List.drop_zero,take_mapL,EE.down];rfl)) (ww ?_)
      obtain⟨a6,ha6,h⟩:=bi h
      refine t_app (enc:=eI) (xs:=o1_1) rfl rfl (by first|rfl|simp only[List.length_set]|exact(clrL_len (slI_len (by assumption))).symm) rfl (rows_full (enc:=eI) (by first|rfl|simp only[List.length_set]|exact(clrL_len (slI_len (by assumption))).symm) rfl) ha6 (ww ?_)
      cases h
      exact eM [some 0,some 1,some 2] rfl
     ·refine ww ?_
      cases h
      exact eM [some 0,some 1,some 2] rfl
   ·rintro _ rfl
    clear ho
    refine ww ?_
    rw[wrapN (by omega)]
    exact eL' (ys.length-(o1_2+1)) [some 0,some 1,some 2] ⟨o1_2+1,o3.1,o3.2,⟨by omega,rfl⟩,rfl,h⟩ (by omega)
  ·rw[countN (show¬((o1_2:Int)<(ys.length:Int))from c2),F14wf_l1]at h
   refine ww ?_
   cases h
   exact eM [some 0,some 1,some 2] rfl
 ·rintro _ rfl
  clear ho
  refine ww ?_
  cases h
  exact eM [some 0,some 1,some 2] rfl
def F52(x0:ByteArray)(x1:ByteArray)(x2:ByteArray):Option (ByteArray):=(catI x0 ((⟨#[47]⟩:ByteArray))).bind fun s1=>(catI s1 x1).bind fun s2=>(catI s2 ((⟨#[47]⟩:ByteArray))).bind fun s3=>(catI s3 x2).bind fun s4=>some s4
def a52:AFn:=⟨14,[(.tmp 6)],
 (.seq (.reg [sq 6 (.mv (kS ⟨#[]⟩))])
 (.seq (.reg [Qa 7 0,
sq 8 (.bin .add (.t 7) (kS ⟨#[47]⟩)),
Qa 9 1,
sq 10 (.bin .add (.t 8) (.t 9)),
sq 11 (.bin .add (.t 10) (kS ⟨#[47]⟩)),
Qa 12 2,
sq 13 (.bin .add (.t 11) (.t 12)),
Qa 6 13])
 .ret))⟩
theorem F52_ok{x0 x1 x2 r}(h:F52 x0 x1 x2=some r):CallD Try.prog 52 [.c (dS x0),.c (dS x1),.c (dS x2)] [] (tupV [.c (dS r)]) []:=by
 rw[F52]at h
 refine zc a52 (by kernel_rfl) rfl (ww ?_)
 obtain⟨s1,hs1,h⟩:=bi h
 obtain⟨hle,es1⟩:=cat_some hs1
 refine⟨hle,?_⟩
 first|rw[←es1]|subst es1
 refine ww ?_
 obtain⟨s2,hs2,h⟩:=bi h
 obtain⟨hle,es2⟩:=cat_some hs2
 refine⟨hle,?_⟩
 first|rw[←es2]|subst es2
 refine ww ?_
 obtain⟨s3,hs3,h⟩:=bi h
 obtain⟨hle,es3⟩:=cat_some hs3
 refine⟨hle,?_⟩
 first|rw[←es3]|subst es3
 refine ww ?_
 obtain⟨s4,hs4,h⟩:=bi h
 obtain⟨hle,es4⟩:=cat_some hs4
 refine⟨hle,?_⟩
 first|rw[←es4]|subst es4
 refine ww ?_
 cases h
 exact eF []
def F32_l1(x1:Int):List Object→Nat→Option ((Bool) ⊕ (Unit))
 |[],o1_0=>some (Sum.inr (()))
 |xo1::xs,o1_0=>(if xo1.Meta.Uid=x1 then(some true).map Sum.inl else F32_l1 x1 xs (o1_0+1))
def F32(x0:(List Object))(x1:Int):Option (Bool):=(((ck (0≤x0.length∧x0.length≤4294967290)).bind fun u4=>F32_l1 x1 x0 0:Option ((Bool) ⊕ (Unit))).bind fun o1=>match o1 with|Sum.inl f=>some f|Sum.inr po1=>some false)
def a32:AFn:=⟨20,[(.tmp 4)],
 (.seq (.reg [Qf 4 false])
 (.seq (.seq (.reg [Qe 5 0])
 (.sem (.block 0 (.loop (.seq (.seq (.reg [Qa 6 5,
Qa 7 0,
Qh 8 7,
Qn 9 6 8])
 (.cond (.t 9)
 .skip
 (.exit 0)))
 (.seq (.block 1 (.seq (.reg [Qa 12 0,
Qa 13 5,
Qp 14 23 12 13,
Qb 15 0 14,
Qb 16 3 15,
Qd 17 16,
Qa 18 1,
sq 19 (.bin .eql (.t 17) (.t 18))])
 (.cond (.t 19)
 (.seq (.reg [Qf 4 true])
 .ret)
 .skip)))
 (.reg [Qa 10 5,
Qm 11 10 1,
Qa 5 11])))))))
 (.seq (.reg [Qf 4 false])
 .ret)))⟩
theorem F32_ok{x0 x1 r}(h:F32 x0 x1=some r):CallD Try.prog 32 [.c (dM (x0.map eObject)),.c (dI x1)] [] (tupV [.c (dB r)]) []:=by
 rw[F32]at h
 refine zc a32 (by kernel_rfl) rfl (ww ?_)
 obtain⟨o1,ho,h⟩:=bi h
 refine cutS (fun s=>∃po1,o1=Sum.inr po1∧s=⟨[],[]⟩) ?_ ?_
 ·have h0o1:=h
  have h:=ho
  clear ho
  obtain⟨_,hk,h⟩:=bi h
  have hk:=ck_some hk
  refine ww ?_
  refine bL (fun j s=>∃(o1_0:Nat),(o1_0≤x0.length∧j=x0.length-o1_0)∧s=⟨[(0,oc (dM (x0.map eObject))),(1,oc (dI x1)),(5,oc (dI ((o1_0:Int))))],[]⟩∧F32_l1 x1 (x0.drop o1_0) o1_0=some o1) (x0.length-0) [] ⟨0,⟨hk.1,rfl⟩,rfl,h⟩ ?_
  rintro _ _ ⟨o1_0,⟨hi,rfl⟩,rfl,h⟩
  refine ww ?_
  refine condS (fun c2=>?_) (fun c2=>?_)
  ·obtain⟨xo1,hxo1,hd⟩:=countY (show(o1_0:Int)<(x0.length:Int)from c2)
   rw[hd,F32_l1]at h
   refine ww ?_
   refine t_idxF (enc:=eObject) (xs:=x0) rfl rfl hxo1 rfl (ww ?_)
   refine condSh h (fun c3 h=>ww ?_) (fun c3 h=>ww ?_)
   ·obtain⟨fh0o1,hfh0o1,rfl⟩:=Option.map_eq_some_iff.1 h
    have h:=hfh0o1.trans h0o1
    cases h
    exact eF []
   rw[wrapN (by omega)]
   exact eL' (x0.length-(o1_0+1)) [] ⟨o1_0+1,⟨by omega,rfl⟩,rfl,h⟩ (by omega)
  rw[countN (show¬((o1_0:Int)<(x0.length:Int))from c2),F32_l1]at h
  refine ww ?_
  cases h
  exact eM [] ⟨_,rfl,rfl⟩
 rintro _ ⟨po1,rfl,rfl⟩
 clear ho
 dsimp only at h
 refine ww ?_
 cases h
 exact eF []
end Go.Proofs.Ytdejhahgpojnoaa
