/- Each Go function as a function over typed data, and its walk. -/
import Derived.Test.YtdejhahgpojnoaaW0
namespace Go.Proofs.Ytdejhahgpojnoaa
open Go Go.Fw Go.Shelf
set_option maxRecDepth 100000
set_option maxHeartbeats 4000000
set_option linter.unusedSimpArgs false
set_option linter.unusedVariables false
def F49(x0:ByteArray)(x1:ByteArray)(x2:ByteArray):Option (ByteArray):=(catI x0 ((⟨#[47]⟩:ByteArray))).bind fun s1=>(catI s1 x1).bind fun s2=>(catI s2 ((⟨#[47]⟩:ByteArray))).bind fun s3=>(catI s3 x2).bind fun s4=>some s4
def a49:AFn:=⟨14,[(.tmp 6)],
 (.seq (.reg [sq 6 (.mv (kS ⟨#[]⟩))])
 (.seq (.reg [Qa 7 0,
sq 8 (.bin .add (.t 7) (kS ⟨#[47]⟩)),
Qa 9 1,
sq 10 (.bin .add (.t 8) (.t 9)),
sq 11 (.bin .add (.t 10) (kS ⟨#[47]⟩)),
Qa 12 2,
sq 13 (.bin .add (.t 11) (.t 12)),
Qa 6 13])
 .ret))⟩
theorem F49_ok{x0 x1 x2 r}(h:F49 x0 x1 x2=some r):CallD Try.prog 49 [.c (dS x0),.c (dS x1),.c (dS x2)] [] (tupV [.c (dS r)]) []:=by
 rw[F49]at h
 refine zc a49 (by kernel_rfl) rfl (ww ?_)
 obtain⟨s1,hs1,h⟩:=bi h
 obtain⟨hle,es1⟩:=cat_some hs1
 refine⟨hle,?_⟩
 first|rw[←es1]|subst es1
 refine ww ?_
 obtain⟨s2,hs2,h⟩:=bi h
 obtain⟨hle,es2⟩:=cat_some hs2
 refine⟨hle,?_⟩
 first|rw[←es2]|subst es2
 refine ww ?_
 obtain⟨s3,hs3,h⟩:=bi h
 obtain⟨hle,es3⟩:=cat_some hs3
 refine⟨hle,?_⟩
 first|rw[←es3]|subst es3
 refine ww ?_
 obtain⟨s4,hs4,h⟩:=bi h
 obtain⟨hle,es4⟩:=cat_some hs4
 refine⟨hle,?_⟩
 first|rw[←es4]|subst es4
 refine ww ?_
 cases h
 exact eF []
def F37(x0:Owner)(b1:List (Int×TState)):Option (Unit):=some (())
def a37:AFn:=⟨10,[(.tmp 3)],
 (.seq (.reg [Qg 2 0,
Qf 3 false])
 (.seq (.reg [Qd 4 1,
Qb 5 2 2,
Qd 6 5,
sq 7 (.mget 0 false (.agg [dB false,dB false,dB false,dB false,dB false]) (.t 4) (.t 6)),
sq 8 (.field 0 none (.t 7)),
Qq 9 8,
Qa 3 9])
 .ret))⟩
theorem F37_ok{x0 b1 r}(h:F37 x0 b1=some r):CallD Try.prog 37 [.agg (bOwner x0),.c (.pt 0 0)] [xb [.mref 1],some (.map (eMs (Value.int .i64) eTState b1))] (tupV [.c (dB (nb ((((getM x0.Uid b1).getD ((⟨false,false,false,false,false⟩:TState)))).exists_)))]) [xb [.mref 1],some (.map (eMs (Value.int .i64) eTState b1))]:=by
 rw[F37]at h
 refine zc a37 (by kernel_rfl) rfl (ww ?_)
 refine t_mgets (enc:=eTState) (l:=b1) (z:=(⟨false,false,false,false,false⟩:TState)) kkI rfl rfl rfl rfl (ww ?_)
 cases h
 exact eF [some 0,some 1]
def F78_l1(x1:Int)(x2:Int)(x3:Int):Nat→(List GcAction)→Int→Option ((List GcAction))
 |0,_,_=>none
 |k+1,o1_0,o1_1=>(if o1_1<x3 then(rdI o1_0 ((IntKind.i64.wrap (x2+o1_1)))).bind fun y3=>(rdI o1_0 ((IntKind.i64.wrap (x1+o1_1)))).bind fun y4=>(rdI o1_0 ((IntKind.i64.wrap (x1+o1_1)))).bind fun y5=>(rdI ((o1_0.set ((IntKind.i64.wrap (x1+o1_1))).toNat y3)) ((IntKind.i64.wrap (x2+o1_1)))).bind fun y6=>F78_l1 x1 x2 x3 k ((((o1_0.set ((IntKind.i64.wrap (x1+o1_1))).toNat y3)).set ((IntKind.i64.wrap (x2+o1_1))).toNat y4)) ((IntKind.i64.wrap (o1_1+1)))else some o1_0)
def F78i(x0:(List GcAction))(x1:Int)(x2:Int)(x3:Int):Option ((List GcAction)):=((F78_l1 x1 x2 x3 1099511627776 x0 0).bind fun o1=>some o1)
def F78(x0:(List GcAction))(x1:Int)(x2:Int)(x3:Int):Option ((List GcAction)):=(F78i x0 x1 x2 x3).bind fun r=>if r.length=x0.length then some r else none
theorem F78_len0{x0:(List GcAction)}{x1:Int}{x2:Int}{x3:Int}{r:(List GcAction)}(h:F78 x0 x1 x2 x3=some r):r.length=x0.length:=(guard_some h).2
def a78:AFn:=⟨38,[],
 (.seq (.reg [Qe 10 0])
 (.sem (.block 0 (.loop (.seq (.seq (.reg [Qa 11 10,
Qa 12 3,
Qn 13 11 12])
 (.cond (.t 13)
 .skip
 (.exit 0)))
 (.seq (.block 1 (.regd [Qa 16 0,
Qa 17 1,
Qa 18 10,
sd 19 (.bin .add (.t 17) (.t 18)) [1,2],
Qa 20 0,
Qa 21 2,
Qa 22 10,
sd 23 (.bin .add (.t 21) (.t 22)) [5,6],
Qa 24 0,
Qa 25 2,
Qa 26 10,
sd 27 (.bin .add (.t 25) (.t 26)) [9,10],
sd 28 (.indexA 5 (.t 24) (.t 27)) [8,9,10,11],
sd 29 (.load (some 5) (.t 28)) [8,9,10,11,12],
Qa 30 0,
Qa 31 1,
Qa 32 10,
sd 33 (.bin .add (.t 31) (.t 32)) [15,16],
sd 34 (.indexA 5 (.t 30) (.t 33)) [14,15,16,17],
sd 35 (.load (some 5) (.t 34)) [14,15,16,17,18],
sd 36 (.indexA 5 (.t 16) (.t 19)) [0,1,2,3,8,9,10,11,12,13,14,15,16,17,18,19],
⟨none,none,.store 5 (.t 36) (.t 29),[0,1,2,3,8,9,10,11,12,13,14,15,16,17,18,19,20],(.lone [])⟩,
sd 37 (.indexA 5 (.t 20) (.t 23)) [0,1,2,3,4,5,6,7,8,9,10,11,12,13,14,15,16,17,18,19,20,21],
⟨none,none,.store 5 (.t 37) (.t 35),[0,1,2,3,4,5,6,7,8,9,10,11,12,13,14,15,16,17,18,19,20,21,22],(.lone [])⟩]))
 (.reg [Qa 14 10,
Qm 15 14 1,
Qa 10 15])))))))⟩
theorem F78_ok{x0 x1 x2 x3 r}{e0:Nat}(h:F78 x0 x1 x2 x3=some r):CallD Try.prog 78 [.c (.own 0 e0 0 (x0.length) none),.c (dI x1),.c (dI x2),.c (dI x3),.c (.fn 22 [])] [some (.arr e0 5 (x0.map eGcAction))] (tupV []) [some (.arr e0 5 (r.map eGcAction))]:=by
 replace h:=(guard_some h).1
 rw[F78i]at h
 refine zc a78 (by kernel_rfl) rfl (ww ?_)
 obtain⟨o1,ho,h⟩:=bi h
 refine cutS (fun s=>s=⟨[],[some (.arr e0 5 (o1.map eGcAction))]⟩) ?_ ?_
 ·have h:=ho
  clear ho
  refine ww ?_
  refine bL (fun j s=>∃(o1_0:List GcAction) (o1_1:Int),s=⟨[(0,oc (.own 0 e0 0 (o1_0.length) none)),(1,oc (dI x1)),(2,oc (dI x2)),(3,oc (dI x3)),(10,oc (dI o1_1))],[some (.arr e0 5 (o1_0.map eGcAction))]⟩∧F78_l1 x1 x2 x3 j o1_0 o1_1=some o1) 1099511627776 [some 0] ⟨x0,0,rfl,h⟩ ?_
  rintro j _ ⟨o1_0,o1_1,rfl,h⟩
  cases j with
  |zero=>cases(show(none:Option _)=some _ from h)
  |succ j=>
   rw[F78_l1]at h
   refine ww ?_
   refine condSh h (fun c2 h=>ww ?_) (fun c2 h=>?_)
   ·obtain⟨y3,hy3,h⟩:=bi h
    refine t_idxO (enc:=eGcAction) (xs:=o1_0) rfl rfl rfl (by first|rfl|simp only[List.length_set]|exact(clrL_len (slI_len (by assumption))).symm) hy3 (ww ?_)
    refine LdRow.rd (rdI_some hy3).2.1 (ww ?_)
    obtain⟨y4,hy4,h⟩:=bi h
    refine t_idxO (enc:=eGcAction) (xs:=o1_0) rfl rfl rfl (by first|rfl|simp only[List.length_set]|exact(clrL_len (slI_len (by assumption))).symm) hy4 (ww ?_)
    refine LdRow.rd (rdI_some hy4).2.1 (ww ?_)
    obtain⟨y5,hy5,h⟩:=bi h
    refine t_idxO (enc:=eGcAction) (xs:=o1_0) rfl rfl rfl (by first|rfl|simp only[List.length_set]|exact(clrL_len (slI_len (by assumption))).symm) hy5 (ww ?_)
    refine StRow.rd (y':=y3) (rdI_some hy5).2.1 (by simp[EE.down]) (by first|rfl|(simp only[bor_full'];rfl)) (ww ?_)
    obtain⟨y6,hy6,h⟩:=bi h
    refine t_idxO (enc:=eGcAction) (xs:=((o1_0.set ((IntKind.i64.wrap (x1+o1_1))).toNat y3))) rfl rfl rfl (by first|rfl|simp only[List.length_set]|exact(clrL_len (slI_len (by assumption))).symm) hy6 (ww ?_)
    refine StRow.rd (y':=y4) (rdI_some hy6).2.1 (by simp[EE.down]) (by first|rfl|(simp only[bor_full'];rfl)) (ww ?_)
    exact eL' j [some 0] ⟨(((o1_0.set ((IntKind.i64.wrap (x1+o1_1))).toNat y3)).set ((IntKind.i64.wrap (x2+o1_1))).toNat y4),(IntKind.i64.wrap (o1_1+1)),rfl,h⟩ (Nat.lt_succ_self _)
   ·refine ww ?_
    cases h
    exact eM [some 0] rfl
 rintro _ rfl
 clear ho
 refine ww ?_
 cases h
 exact eF [some 0]
def Try.laysComp_ren:Go.Shelf.Ren:=⟨fun|194=>28|n=>n,fun|31=>28|9=>9|3=>3|4=>4|0=>0|n=>n,fun|n=>n⟩
theorem Try.laysComp:Go.Proofs.Lays.n194 Try.prog Try.laysComp_ren:={
 mixed:=by kernel_rfl
 f194:=Try.func28.trans (congrArg some (by kernel_rfl))
 t0:=Try.underlying0
 a0:=Try.isAgg0
 z0:=Try.sizeOf0
 v0:=Try.zeroValue0
 t3:=Try.underlying3
 a3:=Try.isAgg3
 z3:=Try.sizeOf3
 v3:=Try.zeroValue3
 t4:=Try.underlying4
 a4:=Try.isAgg4
 z4:=Try.sizeOf4
 v4:=Try.zeroValue4
 t9:=Try.underlying9
 a9:=Try.isAgg9
 z9:=Try.sizeOf9
 v9:=Try.zeroValue9
 t31:=Try.underlying28
 a31:=Try.isAgg28
 z31:=Try.sizeOf28
 v31:=Try.zeroValue28}
theorem F28_ok{x0 r:List ByteArray}{e0:Nat}(h:compI x0=some r):CallD Try.prog 28 [.c (.own 0 e0 0 x0.length none)] [some (.arr e0 1 (x0.map eS))] (tupV [.c (.own 0 (e0+1) 0 r.length none)]) [some (.arr (e0+1) 1 (r.map eS))]:=L_comp (ρ:=Try.laysComp_ren) Try.laysComp rfl (by kernel_rfl) h
def cF14g:AC:=(.reg [Qn 37 36 35])
def F14g(l:List Object)(ol:List (Int×D))(i:Int)(o:Object)(k:Int):Option (Unit):=some (())
theorem F14g_ok{l ol i o k r}(h:F14g l ol i o k=some r):sK Try.prog 155 0 cF14g [] (sM 155 0 (fun s=>s=⟨[(0,oc (dM (l.map eObject))),(3,oc (.mref 0)),(5,Pz 1),(26,oc (dM (l.map eObject))),(27,oc (dI ((l.length:Int)))),(28,oc (dI i)),(34,oc (dM (o.Meta.Owners.map eOwner))),(35,oc (dI ((o.Meta.Owners.length:Int)))),(36,oc (dI k)),(37,oc (dB (decide (k<(o.Meta.Owners.length:Int)))))],[some (.map (eM1 (Value.int .i64) (fun x=>x) ol)),xb (bObject o)]⟩) (xQ 155 0 (fun _ _=>False) (fun _=>False)))
 ⟨[(0,oc (dM (l.map eObject))),(3,oc (.mref 0)),(5,Pz 1),(26,oc (dM (l.map eObject))),(27,oc (dI ((l.length:Int)))),(28,oc (dI i)),(34,oc (dM (o.Meta.Owners.map eOwner))),(35,oc (dI ((o.Meta.Owners.length:Int)))),(36,oc (dI k))],[some (.map (eM1 (Value.int .i64) (fun x=>x) ol)),xb (bObject o)]⟩:=by
 rw[F14g]at h
 simp only[cF14g,VW.down,Nat.reduceEqDiff,reduceCtorEq,Nat.reduceAdd,Nat.reduceLeDiff,Nat.reduceLT,Nat.reduceBEq,Nat.reduceSub,EE.down]
 cases h
 exact eM [some 0,some 1] rfl
def cF14rn:AC:=(.regd [Qa 40 3,
Qb 41 0 5,
sd 42 (.fieldA 3 (.t 41)) [1],
sd 43 (.load none (.t 42)) [1,2],
Qa 44 3,
Qb 45 0 5,
sd 46 (.fieldA 3 (.t 45)) [5],
sd 47 (.load none (.t 46)) [5,6],
sd 48 (.mget 0 false (.c (dN)) (.t 44) (.t 47)) [4,5,6,7],
Qb 49 2 7,
sd 50 (.load none (.t 49)) [9],
zn 51 (.bslice 1 [(.t 50)]) [9,10] [9,10],
zl 52 (.app 1 8 (.t 48) (.t 51)) [4,5,6,7,8,9,10,11] [5,41,42]])
def F14rn(l:List Object)(R2:List (Value×A1))(i:Int)(o:Object)(k:Int)(x:Owner):Option (List Int):=(apI ([]:List Int) ([x.Uid])).bind fun a1=>some a1
theorem F14rn_ok{l:List Object}{R2:List (Value×A1)}{i:Int}{o:Object}{k:Int}{x:Owner}{r:List Int}{Q:XT→St→Prop}(hk:allK 0 R2=true)(hf:(mfind (.int .i64 o.Meta.Uid) R2).getD (.c (dN))= .c (dN))(h:F14rn l R2 i o k x=some r)(hQ:∀s':St,s'.heap=[some (.map R2),xb (bObject o),xb (bOwner x),some (.arr 0 1 (([x.Uid]).map eI)),some (.arr 0 1 (r.map eI))]→lk s'.slots 0=some (oc (dM (l.map eObject)))→lk s'.slots 3=some (oc (.mref 0))→lk s'.slots 5=some (Pz 1)→lk s'.slots 7=some (Pz 2)→lk s'.slots 26=some (oc (dM (l.map eObject)))→lk s'.slots 27=some (oc (dI ((l.length:Int))))→lk s'.slots 28=some (oc (dI i))→lk s'.slots 34=some (oc (dM (o.Meta.Owners.map eOwner)))→lk s'.slots 35=some (oc (dI ((o.Meta.Owners.length:Int))))→lk s'.slots 36=some (oc (dI k))→lk s'.slots 40=some (oc (.mref 0))→lk s'.slots 43=some (oc (dI o.Meta.Uid))→lk s'.slots 52=some (oc (.own 4 0 0 (r.length) none))→Q .normal s'):sK Try.prog 155 0 cF14rn [] Q
 ⟨[(0,oc (dM (l.map eObject))),(3,oc (.mref 0)),(5,Pz 1),(7,Pz 2),(26,oc (dM (l.map eObject))),(27,oc (dI ((l.length:Int)))),(28,oc (dI i)),(34,oc (dM (o.Meta.Owners.map eOwner))),(35,oc (dI ((o.Meta.Owners.length:Int)))),(36,oc (dI k))],[some (.map R2),xb (bObject o),xb (bOwner x)]⟩:=by
 rw[F14rn]at h
 simp only[cF14rn,VW.down,Nat.reduceEqDiff,reduceCtorEq,Nat.reduceAdd,Nat.reduceLeDiff,Nat.reduceLT,Nat.reduceBEq,Nat.reduceSub,EE.down]
 refine t_mgetR rfl rfl rfl hk hf (ww ?_)
 refine t_bslice (enc:=eI) (ys:=[x.Uid]) rfl rfl (by simp[A1.cells]) (by first|rfl|(simp only[List.drop_zero,take_mapL];rfl)|(simp only[lit,List.map_cons,List.map_nil,List.drop_zero,take_mapL,EE.down];done)|(simp only[lit,List.map_cons,List.map_nil,List.drop_zero,take_mapL,EE.down];rfl)) (ww ?_)
 refine kD_new (by simp[wrs,allW,hset]) (ww ?_)
 obtain⟨a1,ha1,h⟩:=bi h
 refine t_appN (enc:=eI) rfl rfl (rows_full (enc:=eI) (by first|rfl|simp only[List.length_set]|exact(clrL_len (slI_len (by assumption))).symm) rfl) ha1 (ww ?_)
 cases h
 exact hQ _ rfl rfl rfl rfl rfl rfl rfl rfl rfl rfl rfl rfl rfl rfl
def cF14k:AC:=(.reg [sq 55 (.mkmap),
Qa 8 55])
def F14k(l:List Object)(om:List (Int×List Int)):Option (Unit):=some (())
theorem F14k_ok{l om r}(h:F14k l om=some r):sK Try.prog 155 0 cF14k [] (sM 155 0 (fun s=>s=⟨[(0,oc (dM (l.map eObject))),(3,oc (.mref 0)),(8,oc (.mref 1))],[some (.map (eM1 (Value.int .i64) (fun x=> .sl (x.map eI)) om)),some (.map (eM1 (Value.int .i64) (fun x=> .v (.int .i64 x)) ([]:List (Int×Int))))]⟩) (xQ 155 0 (fun _ _=>False) (fun _=>False)))
 ⟨[(0,oc (dM (l.map eObject))),(3,oc (.mref 0))],[some (.map (eM1 (Value.int .i64) (fun x=> .sl (x.map eI)) om))]⟩:=by
 rw[F14k]at h
 simp only[cF14k,VW.down,Nat.reduceEqDiff,reduceCtorEq,Nat.reduceAdd,Nat.reduceLeDiff,Nat.reduceLT,Nat.reduceBEq,Nat.reduceSub,EE.down]
 refine t_mkmap1 (κ:=Int) (α:=Int) (enc:=(fun x=> .v (.int .i64 x))) (Value.int .i64) (ww ?_)
 cases h
 exact eM [some 0,some 1] rfl
def F14l_l1:List Object→Nat→(List (Int×Int))→Option ((List (Int×Int)))
 |[],o1_1,o1_0=>some o1_0
 |xo1::xs,o1_1,o1_0=>F14l_l1 xs (o1_1+1) ((putM xo1.Meta.Uid 0 o1_0))
def cF14l:AC:=(.seq (.reg [Qa 56 0,
Qh 57 56,
Qe 58 0])
 (.sem (.block 4 (.loop (.seq (.reg [Qn 59 58 57])
 (.seq (.cond (.t 59)
 .skip
 (.exit 4))
 (.seq (.block 5 (.seq (.reg [Qp 60 23 56 58,
Qc 61 23 60,
sq 10 (.zbox [dS ⟨#[]⟩,dS ⟨#[]⟩,dS ⟨#[]⟩,dI 0,dI 0,dI 0,dI 0,dB false,dI 0,dN,dN,dN,dN,dI 0,dI 0,dS ⟨#[]⟩,dN,dN,dI 0,dI 0,dS ⟨#[]⟩,dN,dN]),
su (.store 23 (.t 10) (.t 61))])
 (.reg [Qa 62 8,
Qb 63 0 10,
Qb 64 3 63,
Qd 65 64,
⟨none,none,.mset 0 (.t 62) (.t 65) (kI 0),[],(.lone [10,63,64])⟩])))
 (.reg [Qm 66 58 1,
Qa 58 66]))))))))
def F14l(l:List Object)(om:List (Int×List Int)):Option ((List (Int×Int))):=(((ck (0≤l.length∧l.length≤4294967290)).bind fun u3=>F14l_l1 l 0 ([])).bind fun o1=>some o1)
theorem F14l_ok{l om r}(h:F14l l om=some r):sK Try.prog 155 0 cF14l [] (sM 155 0 (fun s=>s=⟨[(3,oc (.mref 0)),(8,oc (.mref 1))],[some (.map (eM1 (Value.int .i64) (fun x=> .sl (x.map eI)) om)),some (.map (eM1 (Value.int .i64) (fun x=> .v (.int .i64 x)) r))]⟩) (xQ 155 0 (fun _ _=>False) (fun _=>False)))
 ⟨[(0,oc (dM (l.map eObject))),(3,oc (.mref 0)),(8,oc (.mref 1))],[some (.map (eM1 (Value.int .i64) (fun x=> .sl (x.map eI)) om)),some (.map (eM1 (Value.int .i64) (fun x=> .v (.int .i64 x)) ([]:List (Int×Int))))]⟩:=by
 rw[F14l]at h
 simp only[cF14l,VW.down,Nat.reduceEqDiff,reduceCtorEq,Nat.reduceAdd,Nat.reduceLeDiff,Nat.reduceLT,Nat.reduceBEq,Nat.reduceSub,EE.down]
 obtain⟨o1,ho,h⟩:=bi h
 refine cutS (fun s=>s=⟨[(3,oc (.mref 0)),(8,oc (.mref 1))],[some (.map (eM1 (Value.int .i64) (fun x=> .sl (x.map eI)) om)),some (.map (eM1 (Value.int .i64) (fun x=> .v (.int .i64 x)) o1))]⟩) ?_ ?_
 ·have h:=ho
  clear ho
  obtain⟨_,hk,h⟩:=bi h
  have hk:=ck_some hk
  refine ww ?_
  refine bL (fun j s=>∃(o1_1:Nat) (o1_0:List (Int×Int)),(o1_1≤l.length∧j=l.length-o1_1)∧s=⟨[(3,oc (.mref 0)),(8,oc (.mref 1)),(56,oc (dM (l.map eObject))),(57,oc (dI ((l.length:Int)))),(58,oc (dI ((o1_1:Int))))],[some (.map (eM1 (Value.int .i64) (fun x=> .sl (x.map eI)) om)),some (.map (eM1 (Value.int .i64) (fun x=> .v (.int .i64 x)) o1_0))]⟩∧F14l_l1 (l.drop o1_1) o1_1 o1_0=some o1) (l.length-0) [some 0,some 1] ⟨0,[],⟨hk.1,rfl⟩,rfl,h⟩ ?_
  rintro _ _ ⟨o1_1,o1_0,⟨hi,rfl⟩,rfl,h⟩
  refine ww ?_
  refine condS (fun c2=>?_) (fun c2=>?_)
  ·obtain⟨xo1,hxo1,hd⟩:=countY (show(o1_1:Int)<(l.length:Int)from c2)
   rw[hd,F14l_l1]at h
   refine ww ?_
   refine t_idxF (enc:=eObject) (xs:=l) rfl rfl hxo1 rfl (ww ?_)
   refine t_mset1 (enc:=(fun x=> .v (.int .i64 x))) (l:=o1_0) (x:=0) kkI rfl rfl rfl rfl (ww ?_)
   rw[wrapN (by omega)]
   exact eL' (l.length-(o1_1+1)) [some 0,some 1] ⟨o1_1+1,(putM xo1.Meta.Uid 0 o1_0),⟨by omega,rfl⟩,rfl,h⟩ (by omega)
  ·rw[countN (show¬((o1_1:Int)<(l.length:Int))from c2),F14l_l1]at h
   refine ww ?_
   cases h
   exact eM [some 0,some 1] rfl
 ·rintro _ rfl
  clear ho
  refine ww ?_
  cases h
  exact eM [some 0,some 1] rfl
def cF14n1:AC:=(.reg [Qa 73 3,
Qa 74 11,
sq 75 (.mget 0 false (.c (dN)) (.t 73) (.t 74)),
Qh 76 75,
Qe 77 0])
def F14n1(om:List (Int×List Int))(mo:D)(it:D)(uid:Int):Option (((List Int))×Int):=(getM uid om).bind fun y1=>some ((y1,(y1.length:Int)))
theorem F14n1_ok{om mo it uid r}(h:F14n1 om mo it uid=some r):sK Try.prog 155 0 cF14n1 [] (sM 155 0 (fun s=>s=⟨[(3,oc (.mref 0)),(8,oc (.d (mo))),(68,oc (.d (it))),(75,oc (dM (r.1.map eI))),(76,oc (dI r.2)),(77,oc (dI 0))],[some (.map (eM1 (Value.int .i64) (fun x=> .sl (x.map eI)) om))]⟩) (xQ 155 0 (fun _ _=>False) (fun _=>False)))
 ⟨[(3,oc (.mref 0)),(8,oc (.d (mo))),(11,oc (dI uid)),(68,oc (.d (it)))],[some (.map (eM1 (Value.int .i64) (fun x=> .sl (x.map eI)) om))]⟩:=by
 rw[F14n1]at h
 simp only[cF14n1,VW.down,Nat.reduceEqDiff,reduceCtorEq,Nat.reduceAdd,Nat.reduceLeDiff,Nat.reduceLT,Nat.reduceBEq,Nat.reduceSub,EE.down]
 obtain⟨y1,hy1,h⟩:=bi h
 refine t_mget1E (enc:=(fun x=> .sl (x.map eI))) (l:=om) kkI rfl rfl rfl hy1 (ww ?_)
 cases h
 exact eM [some 0] rfl
def cF14s:AC:=(.reg [sq 16 (.mv kN)])
def F14s(om:List (Int×List Int))(mo:D):Option (Unit):=some (())
theorem F14s_ok{om mo r}(h:F14s om mo=some r):sK Try.prog 155 0 cF14s [] (sM 155 0 (fun s=>s=⟨[(3,oc (.mref 0)),(8,oc (.d (mo))),(16,oc (dN))],[some (.map (eM1 (Value.int .i64) (fun x=> .sl (x.map eI)) om))]⟩) (xQ 155 0 (fun _ _=>False) (fun _=>False)))
 ⟨[(3,oc (.mref 0)),(8,oc (.d (mo)))],[some (.map (eM1 (Value.int .i64) (fun x=> .sl (x.map eI)) om))]⟩:=by
 rw[F14s]at h
 simp only[cF14s,VW.down,Nat.reduceEqDiff,reduceCtorEq,Nat.reduceAdd,Nat.reduceLeDiff,Nat.reduceLT,Nat.reduceBEq,Nat.reduceSub,EE.down]
 cases h
 exact eM [some 0] rfl
def cF14u2:AC:=(.reg [Qa 100 18,
Qr 101 100 0])
def F14u2(om:List (Int×List Int))(mo:D)(it:D)(free:List Int)(uid:Int)(n:Int):Option (Unit):=some (())
theorem F14u2_ok{om mo it free uid n r}(h:F14u2 om mo it free uid n=some r):sK Try.prog 155 0 cF14u2 [] (sM 155 0 (fun s=>s=⟨[(3,oc (.mref 0)),(8,oc (.d (mo))),(16,oc (.own 1 0 0 (free.length) none)),(17,oc (dI uid)),(94,oc (.d (it))),(101,oc (dB (decide (n=0))))],[some (.map (eM1 (Value.int .i64) (fun x=> .sl (x.map eI)) om)),some (.arr 0 1 (free.map eI))]⟩) (xQ 155 0 (fun _ _=>False) (fun _=>False)))
 ⟨[(3,oc (.mref 0)),(8,oc (.d (mo))),(16,oc (.own 1 0 0 (free.length) none)),(17,oc (dI uid)),(18,oc (dI n)),(94,oc (.d (it)))],[some (.map (eM1 (Value.int .i64) (fun x=> .sl (x.map eI)) om)),some (.arr 0 1 (free.map eI))]⟩:=by
 rw[F14u2]at h
 simp only[cF14u2,VW.down,Nat.reduceEqDiff,reduceCtorEq,Nat.reduceAdd,Nat.reduceLeDiff,Nat.reduceLT,Nat.reduceBEq,Nat.reduceSub,EE.down]
 cases h
 exact eM [some 0,some 1] rfl
def cF14u:AC:=(.reg [Qa 102 16,
Qa 103 17,
sq 104 (.bslice 1 [(.t 103)]),
sq 105 (.app 1 8 (.t 102) (.t 104)),
Qa 16 105])
def F14u(om:List (Int×List Int))(mo:D)(it:D)(free:List Int)(uid:Int):Option ((List Int)):=(apI free ([uid])).bind fun a1=>some a1
theorem F14u_ok{om mo it free uid r}(h:F14u om mo it free uid=some r):sK Try.prog 155 0 cF14u [] (sM 155 0 (fun s=>s=⟨[(3,oc (.mref 0)),(8,oc (.d (mo))),(16,oc (.own 1 0 0 (r.length) none)),(94,oc (.d (it)))],[some (.map (eM1 (Value.int .i64) (fun x=> .sl (x.map eI)) om)),some (.arr 0 1 (r.map eI))]⟩) (xQ 155 0 (fun _ _=>False) (fun _=>False)))
 ⟨[(3,oc (.mref 0)),(8,oc (.d (mo))),(16,oc (.own 1 0 0 (free.length) none)),(17,oc (dI uid)),(94,oc (.d (it)))],[some (.map (eM1 (Value.int .i64) (fun x=> .sl (x.map eI)) om)),some (.arr 0 1 (free.map eI))]⟩:=by
 rw[F14u]at h
 simp only[cF14u,VW.down,Nat.reduceEqDiff,reduceCtorEq,Nat.reduceAdd,Nat.reduceLeDiff,Nat.reduceLT,Nat.reduceBEq,Nat.reduceSub,EE.down]
 refine t_bslice (enc:=eI) (ys:=[uid]) rfl rfl (by simp[A1.cells]) (by first|rfl|(simp only[List.drop_zero,take_mapL];rfl)|(simp only[lit,List.map_cons,List.map_nil,List.drop_zero,take_mapL,EE.down];done)|(simp only[lit,List.map_cons,List.map_nil,List.drop_zero,take_mapL,EE.down];rfl)) (ww ?_)
 obtain⟨a1,ha1,h⟩:=bi h
 refine t_app (enc:=eI) (xs:=free) rfl rfl (by first|rfl|simp only[List.length_set]|exact(clrL_len (slI_len (by assumption))).symm) rfl (rows_full (enc:=eI) (by first|rfl|simp only[List.length_set]|exact(clrL_len (slI_len (by assumption))).symm) rfl) ha1 (ww ?_)
 cases h
 exact eM [some 0,some 1] rfl
def cF14wa:AC:=(.reg [Qa 109 16,
Qa 110 16,
Qh 111 110,
sq 112 (.bin .sub (.t 111) (kI 1)),
Qp 113 1 109 112,
Qd 114 113,
Qa 20 114])
def F14wa(om:List (Int×List Int))(lm:List (Int×Int))(free:List Int)(dn:Int):Option (Int):=(rdI free ((IntKind.i64.wrap (((free.length:Int))-1)))).bind fun y1=>some y1
theorem F14wa_ok{om lm free dn r}(h:F14wa om lm free dn=some r):sK Try.prog 155 0 cF14wa [] (sM 155 0 (fun s=>s=⟨[(3,oc (.mref 0)),(8,oc (.mref 1)),(16,oc (.own 2 0 0 (free.length) none)),(19,oc (dI dn)),(20,oc (dI r))],[some (.map (eM1 (Value.int .i64) (fun x=> .sl (x.map eI)) om)),some (.map (eM1 (Value.int .i64) (fun x=> .v (.int .i64 x)) lm)),some (.arr 0 1 (free.map eI))]⟩) (xQ 155 0 (fun _ _=>False) (fun _=>False)))
 ⟨[(3,oc (.mref 0)),(8,oc (.mref 1)),(16,oc (.own 2 0 0 (free.length) none)),(19,oc (dI dn))],[some (.map (eM1 (Value.int .i64) (fun x=> .sl (x.map eI)) om)),some (.map (eM1 (Value.int .i64) (fun x=> .v (.int .i64 x)) lm)),some (.arr 0 1 (free.map eI))]⟩:=by
 rw[F14wa]at h
 simp only[cF14wa,VW.down,Nat.reduceEqDiff,reduceCtorEq,Nat.reduceAdd,Nat.reduceLeDiff,Nat.reduceLT,Nat.reduceBEq,Nat.reduceSub,EE.down]
 obtain⟨y1,hy1,h⟩:=bi h
 refine t_idxO (enc:=eI) (xs:=free) rfl rfl rfl (by first|rfl|simp only[List.length_set]|exact(clrL_len (slI_len (by assumption))).symm) hy1 (ww ?_)
 refine LdRow.rd (rdI_some hy1).2.1 (ww ?_)
 cases h
 exact eM [some 0,some 1,some 2] rfl
def cF14we:AC:=(.reg [Qa 122 3,
Qa 123 20,
sq 124 (.mget 0 false (.c (dN)) (.t 122) (.t 123)),
Qh 125 124,
Qe 126 0])
def F14we(om:List (Int×List Int))(lm:List (Int×Int))(free:List Int)(dn:Int)(uid:Int):Option (Unit):=(noneM uid om).bind fun y1=>some (())
theorem F14we_ok{om lm free dn uid r}(h:F14we om lm free dn uid=some r):sK Try.prog 155 0 cF14we [] (sM 155 0 (fun s=>s=⟨[(3,oc (.mref 0)),(8,oc (.mref 1)),(16,oc (.own 2 0 0 (free.length) none)),(19,oc (dI dn)),(124,oc (dN)),(125,oc (dI 0)),(126,oc (dI 0))],[some (.map (eM1 (Value.int .i64) (fun x=> .sl (x.map eI)) om)),some (.map (eM1 (Value.int .i64) (fun x=> .v (.int .i64 x)) lm)),some (.arr 0 1 (free.map eI))]⟩) (xQ 155 0 (fun _ _=>False) (fun _=>False)))
 ⟨[(3,oc (.mref 0)),(8,oc (.mref 1)),(16,oc (.own 2 0 0 (free.length) none)),(19,oc (dI dn)),(20,oc (dI uid))],[some (.map (eM1 (Value.int .i64) (fun x=> .sl (x.map eI)) om)),some (.map (eM1 (Value.int .i64) (fun x=> .v (.int .i64 x)) lm)),some (.arr 0 1 (free.map eI))]⟩:=by
 rw[F14we]at h
 simp only[cF14we,VW.down,Nat.reduceEqDiff,reduceCtorEq,Nat.reduceAdd,Nat.reduceLeDiff,Nat.reduceLT,Nat.reduceBEq,Nat.reduceSub,EE.down]
 obtain⟨y1,hy1,h⟩:=bi h
 refine t_mget1N (enc:=(fun x=> .sl (x.map eI))) (l:=om) kkI rfl rfl rfl hy1 (ww ?_)
 cases h
 exact eM [some 0,some 1,some 2] rfl
def cF14z:AC:=(.seq (.reg [Qa 151 19,
Qa 152 8,
sq 153 (.mlen (.t 152)),
sq 154 (.bin .eql (.t 151) (.t 153)),
Qa 2 154])
 .ret)
def F14z(lm:List (Int×Int))(dn:Int):Option (Unit):=some (())
theorem F14z_ok{lm dn r}(h:F14z lm dn=some r):sK Try.prog 155 0 cF14z [] (sM 155 0 (fun _=>False) (xQ 155 0 (fun _ _=>False) (fun s=>s=⟨[(2,oc (dB (decide (dn=(lm.length:Int)))))],[]⟩)))
 ⟨[(8,oc (.mref 0)),(19,oc (dI dn))],[some (.map (eM1 (Value.int .i64) (fun x=> .v (.int .i64 x)) lm))]⟩:=by
 rw[F14z]at h
 simp only[cF14z,VW.down,Nat.reduceEqDiff,reduceCtorEq,Nat.reduceAdd,Nat.reduceLeDiff,Nat.reduceLT,Nat.reduceBEq,Nat.reduceSub,EE.down]
 refine t_mlen1 (enc:=(fun x=> .v (.int .i64 x))) (l:=lm) (Value.int .i64) rfl rfl (ww ?_)
 cases h
 exact eR [] rfl
end Go.Proofs.Ytdejhahgpojnoaa
