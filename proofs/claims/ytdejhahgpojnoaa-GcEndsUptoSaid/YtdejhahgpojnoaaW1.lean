/- Each Go function as a function over typed data, and its walk. -/
import Derived.Test.YtdejhahgpojnoaaW0
namespace Go.Proofs.Ytdejhahgpojnoaa
open Go Go.Fw Go.Shelf
set_option maxRecDepth 100000
set_option maxHeartbeats 4000000
set_option linter.unusedSimpArgs false
set_option linter.unusedVariables false
def F52(x0:ByteArray)(x1:ByteArray)(x2:ByteArray):Option (ByteArray):=(catI x0 ((⟨#[47]⟩:ByteArray))).bind fun s1=>(catI s1 x1).bind fun s2=>(catI s2 ((⟨#[47]⟩:ByteArray))).bind fun s3=>(catI s3 x2).bind fun s4=>some s4
def a52:AFn:=⟨14,[(.tmp 6)],
 (.seq (.reg [sq 6 (.mv (kS ⟨#[]⟩))])
 (.seq (.reg [Qa 7 0,
sq 8 (.bin .add (.t 7) (kS ⟨#[47]⟩)),
Qa 9 1,
sq 10 (.bin .add (.t 8) (.t 9)),
sq 11 (.bin .add (.t 10) (kS ⟨#[47]⟩)),
Qa 12 2,
sq 13 (.bin .add (.t 11) (.t 12)),
Qa 6 13])
 .ret))⟩
theorem F52_ok{x0 x1 x2 r}(h:F52 x0 x1 x2=some r):CallD Try.prog 52 [.c (dS x0),.c (dS x1),.c (dS x2)] [] (tupV [.c (dS r)]) []:=by
 rw[F52]at h
 refine zc a52 (by kernel_rfl) rfl (ww ?_)
 obtain⟨s1,hs1,h⟩:=bi h
 obtain⟨hle,es1⟩:=cat_some hs1
 refine⟨hle,?_⟩
 first|rw[←es1]|subst es1
 refine ww ?_
 obtain⟨s2,hs2,h⟩:=bi h
 obtain⟨hle,es2⟩:=cat_some hs2
 refine⟨hle,?_⟩
 first|rw[←es2]|subst es2
 refine ww ?_
 obtain⟨s3,hs3,h⟩:=bi h
 obtain⟨hle,es3⟩:=cat_some hs3
 refine⟨hle,?_⟩
 first|rw[←es3]|subst es3
 refine ww ?_
 obtain⟨s4,hs4,h⟩:=bi h
 obtain⟨hle,es4⟩:=cat_some hs4
 refine⟨hle,?_⟩
 first|rw[←es4]|subst es4
 refine ww ?_
 cases h
 exact eF []
def F18(x0:ByteArray)(x1:Int)(x2:(List Owner)):Option (Unit):=some (())
def a18:AFn:=⟨12,[(.cell 6 (some 23))],
 (.seq (.reg [zl 6 (.zbox [dS ⟨#[]⟩,dS ⟨#[]⟩,dS ⟨#[]⟩,dI 0,dI 0,dI 0,dI 0,dB false,dI 0,dN,dN,dN,dN,dI 0,dI 0,dS ⟨#[]⟩,dN,dN,dI 0,dI 0,dS ⟨#[]⟩,dN,dN]) [] []])
 (.seq (.reg [Qa 7 0,
Qa 8 1,
Qa 9 2,
sq 10 (.build [dS ⟨#[]⟩,dS ⟨#[]⟩,dS ⟨#[]⟩,dI 0,dI 0,dI 0,dI 0,dB false,dI 0,dN,dN,dN,dN] [(0,1,(kS ⟨#[80,111,100]⟩)),(2,1,(.t 7)),(3,1,(.t 8)),(10,1,(.t 9))]),
sq 11 (.build [dS ⟨#[]⟩,dS ⟨#[]⟩,dS ⟨#[]⟩,dI 0,dI 0,dI 0,dI 0,dB false,dI 0,dN,dN,dN,dN,dI 0,dI 0,dS ⟨#[]⟩,dN,dN,dI 0,dI 0,dS ⟨#[]⟩,dN,dN] [(0,13,(.t 10))]),
su (.store 23 (.t 6) (.t 11))])
 .ret))⟩
theorem F18_ok{x0 x1 x2 r}(h:F18 x0 x1 x2=some r):CallD Try.prog 18 [.c (dS x0),.c (dI x1),.c (dM (x2.map eOwner))] [] (tupV [.agg [dS ((⟨#[80,111,100]⟩:ByteArray)),dS ((⟨#[]⟩:ByteArray)),dS x0,dI x1,dI 0,dI 0,dI 0,dB false,dI 0,dM (([]:List Label).map eLabel),dM (x2.map eOwner),dM (([]:List ByteArray).map eS),dM (([]:List Manager).map eManager),dI 0,dI 0,dS ((⟨#[]⟩:ByteArray)),dM (([]:List TValue).map eTValue),dM (([]:List TField).map eTField),dI 0,dI 0,dS ((⟨#[]⟩:ByteArray)),dM (([]:List TValue).map eTValue),dM (([]:List TField).map eTField)]]) []:=by
 rw[F18]at h
 refine zc a18 (by kernel_rfl) rfl (ww ?_)
 cases h
 exact eF []
def F54_l1(x1:ByteArray):List ByteArray→Nat→Option ((Int) ⊕ (Unit))
 |[],o1_0=>some (Sum.inr (()))
 |xo1::xs,o1_0=>(if x1=xo1 then(some ((o1_0:Int))).map Sum.inl else F54_l1 x1 xs (o1_0+1))
def F54(x0:(List ByteArray))(x1:ByteArray):Option (Int):=(((ck (0≤x0.length∧x0.length≤4294967290)).bind fun u4=>F54_l1 x1 x0 0:Option ((Int) ⊕ (Unit))).bind fun o1=>match o1 with|Sum.inl f=>some f|Sum.inr po1=>some ((-1)))
def a54:AFn:=⟨19,[(.tmp 4)],
 (.seq (.reg [Qe 4 0])
 (.seq (.seq (.reg [Qa 6 0,
Qh 7 6,
Qe 8 0])
 (.sem (.block 0 (.loop (.seq (.reg [Qn 9 8 7])
 (.seq (.cond (.t 9)
 .skip
 (.exit 0))
 (.seq (.block 1 (.seq (.reg [Qa 10 8,
Qa 5 10])
 (.seq (.reg [Qa 11 1,
Qa 12 0,
Qa 13 5,
Qp 14 1 12 13,
Qd 15 14,
sq 16 (.bin .eql (.t 11) (.t 15))])
 (.cond (.t 16)
 (.seq (.reg [Qa 17 5,
Qa 4 17])
 .ret)
 .skip))))
 (.reg [Qm 18 8 1,
Qa 8 18]))))))))
 (.seq (.reg [sq 4 (.mv (kI (-1)))])
 .ret)))⟩
theorem F54_ok{x0 x1 r}(h:F54 x0 x1=some r):CallD Try.prog 54 [.c (dM (x0.map eS)),.c (dS x1)] [] (tupV [.c (dI r)]) []:=by
 rw[F54]at h
 refine zc a54 (by kernel_rfl) rfl (ww ?_)
 obtain⟨o1,ho,h⟩:=bi h
 refine cutS (fun s=>∃po1,o1=Sum.inr po1∧s=⟨[],[]⟩) ?_ ?_
 ·have h0o1:=h
  have h:=ho
  clear ho
  obtain⟨_,hk,h⟩:=bi h
  have hk:=ck_some hk
  refine ww ?_
  refine bL (fun j s=>∃(o1_0:Nat),(o1_0≤x0.length∧j=x0.length-o1_0)∧s=⟨[(0,oc (dM (x0.map eS))),(1,oc (dS x1)),(7,oc (dI ((x0.length:Int)))),(8,oc (dI ((o1_0:Int))))],[]⟩∧F54_l1 x1 (x0.drop o1_0) o1_0=some o1) (x0.length-0) [] ⟨0,⟨hk.1,rfl⟩,rfl,h⟩ ?_
  rintro _ _ ⟨o1_0,⟨hi,rfl⟩,rfl,h⟩
  refine ww ?_
  refine condS (fun c2=>?_) (fun c2=>?_)
  ·obtain⟨xo1,hxo1,hd⟩:=countY (show(o1_0:Int)<(x0.length:Int)from c2)
   rw[hd,F54_l1]at h
   refine ww ?_
   refine t_idxF (enc:=eS) (xs:=x0) rfl rfl hxo1 rfl (ww ?_)
   refine condSh h (fun c3 h=>ww ?_) (fun c3 h=>ww ?_)
   ·obtain⟨fh0o1,hfh0o1,rfl⟩:=Option.map_eq_some_iff.1 h
    have h:=hfh0o1.trans h0o1
    cases h
    exact eF []
   rw[wrapN (by omega)]
   exact eL' (x0.length-(o1_0+1)) [] ⟨o1_0+1,⟨by omega,rfl⟩,rfl,h⟩ (by omega)
  rw[countN (show¬((o1_0:Int)<(x0.length:Int))from c2),F54_l1]at h
  refine ww ?_
  cases h
  exact eM [] ⟨_,rfl,rfl⟩
 rintro _ ⟨po1,rfl,rfl⟩
 clear ho
 dsimp only at h
 refine ww ?_
 cases h
 exact eF []
def F39(x0:Owner)(b1:List (Int×TState)):Option (Unit):=some (())
def a39:AFn:=⟨9,[(.tmp 3)],
 (.seq (.reg [Qg 2 0,
Qf 3 false])
 (.seq (.reg [Qd 4 1,
Qb 5 2 2,
Qd 6 5,
sq 7 (.mget 0 false (.agg [dB false,dB false,dB false,dB false,dB false]) (.t 4) (.t 6)),
sq 8 (.field 1 none (.t 7)),
Qa 3 8])
 .ret))⟩
theorem F39_ok{x0 b1 r}(h:F39 x0 b1=some r):CallD Try.prog 39 [.agg (bOwner x0),.c (.pt 0 0)] [xb [.mref 1],some (.map (eMs (Value.int .i64) eTState b1))] (tupV [.c (dB ((((getM x0.Uid b1).getD ((⟨false,false,false,false,false⟩:TState)))).orphans))]) [xb [.mref 1],some (.map (eMs (Value.int .i64) eTState b1))]:=by
 rw[F39]at h
 refine zc a39 (by kernel_rfl) rfl (ww ?_)
 refine t_mgets (enc:=eTState) (l:=b1) (z:=(⟨false,false,false,false,false⟩:TState)) kkI rfl rfl rfl rfl (ww ?_)
 cases h
 exact eF [some 0,some 1]
noncomputable def fn58:Func:=(Try.prog.funcs[58]?).getD default
theorem fn58_ok:Try.prog.funcs[58]? =some fn58:=by kernel_rfl
theorem F58_ok{a b:ByteArray}{r:Int}(h:cmpS a b=some r):CallD Try.prog 58 [.c (dS a),.c (dS b)] [] (tupV [.c (dI r)]) []:=L_cmp fn58_ok (by kernel_rfl) (by kernel_rfl) (by kernel_rfl) (by kernel_rfl) h
def F48(x0:Owner)(b0:Int)(b1:Bool):Option (Bool):=(((if x0.Uid=b0 then(if x0.Block=true then some true else some (nb b1))else some false)).bind fun o1=>some o1)
def a48:AFn:=⟨17,[(.tmp 4)],
 (.seq (.reg [Qg 3 0,
Qf 4 false])
 (.seq (.sem (.reg [Qb 5 2 3,
Qd 6 5,
Qd 7 1,
sq 8 (.bin .eql (.t 6) (.t 7)),
Qa 9 8,
Qs 10 9 true 4 3,
Qt 11 9 true 10,
Qv 12 9 true 11,
Qt 13 12 false 2,
zg 14 12 false (.not (.t 13)),
zg 15 9 true (.pick (.t 12) (kB true) (.t 14)),
Qi 16 9 15,
Qa 4 16]))
 .ret))⟩
theorem F48_ok{x0 b0 b1 r}(h:F48 x0 b0 b1=some r):CallD Try.prog 48 [.agg (bOwner x0),.c (.pt 0 0),.c (.pt 1 0)] [xb [dI b0],xb [dB b1]] (tupV [.c (dB r)]) [xb [dI b0],xb [dB b1]]:=by
 rw[F48]at h
 refine zc a48 (by kernel_rfl) rfl (ww ?_)
 obtain⟨o1,ho,h⟩:=bi h
 refine cutS (fun s=>s=⟨[(4,oc (dB o1))],[xb [dI b0],xb [dB b1]]⟩) ?_ ?_
 ·have h:=ho
  clear ho
  refine ww ?_
  refine guardSh h (fun g2 h=>ww ?_) (fun g2 h=>ww ?_)
  ·refine guardSBh h (fun g3 h=>ww ?_) (fun g3 h=>ww ?_)
   ·cases h
    exact eM [some 0,some 1] rfl
   cases h
   exact eM [some 0,some 1] rfl
  cases h
  exact eM [some 0,some 1] rfl
 rintro _ rfl
 clear ho
 refine ww ?_
 cases h
 exact eF [some 0,some 1]
def Try.laysSort_ren:Go.Shelf.Ren:=⟨fun|190=>27|125=>51|258=>50|128=>69|129=>70|302=>60|303=>61|304=>62|305=>63|306=>64|307=>65|308=>66|309=>67|310=>68|333=>72|329=>73|330=>74|334=>75|335=>76|336=>77|344=>79|n=>n,fun|31=>28|9=>9|3=>3|46=>83|0=>0|51=>97|53=>99|4=>4|183=>90|182=>89|131=>64|5=>5|218=>100|222=>104|228=>106|229=>107|n=>n,fun|n=>n⟩
theorem Try.laysSort:Go.Proofs.Lays.n190 Try.prog Try.laysSort_ren:={
 mixed:=by kernel_rfl
 f125:=Try.func51.trans (congrArg some (by kernel_rfl))
 f128:=Try.func69.trans (congrArg some (by kernel_rfl))
 f129:=Try.func70.trans (congrArg some (by kernel_rfl))
 f190:=Try.func27.trans (congrArg some (by kernel_rfl))
 f258:=Try.func50.trans (congrArg some (by kernel_rfl))
 f302:=Try.func60.trans (congrArg some (by kernel_rfl))
 f303:=Try.func61.trans (congrArg some (by kernel_rfl))
 f304:=Try.func62.trans (congrArg some (by kernel_rfl))
 f305:=Try.func63.trans (congrArg some (by kernel_rfl))
 f306:=Try.func64.trans (congrArg some (by kernel_rfl))
 f307:=Try.func65.trans (congrArg some (by kernel_rfl))
 f308:=Try.func66.trans (congrArg some (by kernel_rfl))
 f309:=Try.func67.trans (congrArg some (by kernel_rfl))
 f310:=Try.func68.trans (congrArg some (by kernel_rfl))
 f329:=Try.func73.trans (congrArg some (by kernel_rfl))
 f330:=Try.func74.trans (congrArg some (by kernel_rfl))
 f333:=Try.func72.trans (congrArg some (by kernel_rfl))
 f334:=Try.func75.trans (congrArg some (by kernel_rfl))
 f335:=Try.func76.trans (congrArg some (by kernel_rfl))
 f336:=Try.func77.trans (congrArg some (by kernel_rfl))
 f344:=Try.func79.trans (congrArg some (by kernel_rfl))
 t0:=Try.underlying0
 a0:=Try.isAgg0
 z0:=Try.sizeOf0
 v0:=Try.zeroValue0
 t3:=Try.underlying3
 a3:=Try.isAgg3
 z3:=Try.sizeOf3
 v3:=Try.zeroValue3
 t4:=Try.underlying4
 a4:=Try.isAgg4
 z4:=Try.sizeOf4
 v4:=Try.zeroValue4
 t5:=Try.underlying5
 a5:=Try.isAgg5
 z5:=Try.sizeOf5
 v5:=Try.zeroValue5
 t9:=Try.underlying9
 a9:=Try.isAgg9
 z9:=Try.sizeOf9
 v9:=Try.zeroValue9
 t31:=Try.underlying28
 a31:=Try.isAgg28
 z31:=Try.sizeOf28
 v31:=Try.zeroValue28
 t46:=Try.underlying83
 a46:=Try.isAgg83
 z46:=Try.sizeOf83
 v46:=Try.zeroValue83
 t51:=Try.underlying97
 a51:=Try.isAgg97
 z51:=Try.sizeOf97
 v51:=Try.zeroValue97
 t53:=Try.underlying99
 a53:=Try.isAgg99
 z53:=Try.sizeOf99
 v53:=Try.zeroValue99
 t131:=Try.underlying64
 a131:=Try.isAgg64
 z131:=Try.sizeOf64
 v131:=Try.zeroValue64
 t182:=Try.underlying89
 a182:=Try.isAgg89
 z182:=Try.sizeOf89
 v182:=Try.zeroValue89
 t183:=Try.underlying90
 a183:=Try.isAgg90
 z183:=Try.sizeOf90
 v183:=Try.zeroValue90
 t218:=Try.underlying100
 a218:=Try.isAgg100
 z218:=Try.sizeOf100
 v218:=Try.zeroValue100
 t222:=Try.underlying104
 a222:=Try.isAgg104
 z222:=Try.sizeOf104
 v222:=Try.zeroValue104
 t228:=Try.underlying106
 a228:=Try.isAgg106
 z228:=Try.sizeOf106
 v228:=Try.zeroValue106
 t229:=Try.underlying107
 a229:=Try.isAgg107
 z229:=Try.sizeOf107
 v229:=Try.zeroValue107}
def cF14b:AC:=(.reg [sq 25 (.mkmap),
Qa 3 25])
def F14b(l:List Object):Option (Unit):=some (())
theorem F14b_ok{l r}(h:F14b l=some r):sK Try.prog 155 0 cF14b [] (sM 155 0 (fun s=>s=⟨[(0,oc (dM (l.map eObject))),(3,oc (.mref 0))],[some (.map (eM1 (Value.int .i64) (fun x=> .sl (x.map eI)) ([]:List (Int×(List Int)))))]⟩) (xQ 155 0 (fun _ _=>False) (fun _=>False)))
 ⟨[(0,oc (dM (l.map eObject)))],[]⟩:=by
 rw[F14b]at h
 simp only[cF14b,VW.down,Nat.reduceEqDiff,reduceCtorEq,Nat.reduceAdd,Nat.reduceLeDiff,Nat.reduceLT,Nat.reduceBEq,Nat.reduceSub,EE.down]
 refine t_mkmap1 (κ:=Int) (α:=(List Int)) (enc:=(fun x=> .sl (x.map eI))) (Value.int .i64) (ww ?_)
 cases h
 exact eM [some 0] rfl
def cF14f:AC:=(.reg [Qb 32 0 5,
Qb 33 10 32,
Qd 34 33,
Qh 35 34,
Qe 36 0])
def F14f(l:List Object)(ol:List (Int×D))(i:Int)(o:Object):Option (Unit):=some (())
theorem F14f_ok{l ol i o r}(h:F14f l ol i o=some r):sK Try.prog 155 0 cF14f [] (sM 155 0 (fun s=>s=⟨[(0,oc (dM (l.map eObject))),(3,oc (.mref 0)),(5,Pz 1),(26,oc (dM (l.map eObject))),(27,oc (dI ((l.length:Int)))),(28,oc (dI i)),(34,oc (dM (o.Meta.Owners.map eOwner))),(35,oc (dI ((o.Meta.Owners.length:Int)))),(36,oc (dI 0))],[some (.map (eM1 (Value.int .i64) (fun x=>x) ol)),xb (bObject o)]⟩) (xQ 155 0 (fun _ _=>False) (fun _=>False)))
 ⟨[(0,oc (dM (l.map eObject))),(3,oc (.mref 0)),(5,Pz 1),(26,oc (dM (l.map eObject))),(27,oc (dI ((l.length:Int)))),(28,oc (dI i))],[some (.map (eM1 (Value.int .i64) (fun x=>x) ol)),xb (bObject o)]⟩:=by
 rw[F14f]at h
 simp only[cF14f,VW.down,Nat.reduceEqDiff,reduceCtorEq,Nat.reduceAdd,Nat.reduceLeDiff,Nat.reduceLT,Nat.reduceBEq,Nat.reduceSub,EE.down]
 cases h
 exact eM [some 0,some 1] rfl
def cF14h:AC:=(.reg [Qp 38 5 34 36,
Qc 39 5 38,
sq 7 (.zbox [dS ⟨#[]⟩,dS ⟨#[]⟩,dI 0,dB false,dB false]),
su (.store 5 (.t 7) (.t 39))])
def F14h(l:List Object)(ol:List (Int×D))(i:Int)(o:Object)(k:Int):Option (Owner):=(rdI o.Meta.Owners k).bind fun y1=>some y1
theorem F14h_ok{l ol i o k r}(h:F14h l ol i o k=some r):sK Try.prog 155 0 cF14h [] (sM 155 0 (fun s=>s=⟨[(0,oc (dM (l.map eObject))),(3,oc (.mref 0)),(5,Pz 1),(7,Pz 2),(26,oc (dM (l.map eObject))),(27,oc (dI ((l.length:Int)))),(28,oc (dI i)),(34,oc (dM (o.Meta.Owners.map eOwner))),(35,oc (dI ((o.Meta.Owners.length:Int)))),(36,oc (dI k))],[some (.map (eM1 (Value.int .i64) (fun x=>x) ol)),xb (bObject o),xb (bOwner (r))]⟩) (xQ 155 0 (fun _ _=>False) (fun _=>False)))
 ⟨[(0,oc (dM (l.map eObject))),(3,oc (.mref 0)),(5,Pz 1),(26,oc (dM (l.map eObject))),(27,oc (dI ((l.length:Int)))),(28,oc (dI i)),(34,oc (dM (o.Meta.Owners.map eOwner))),(35,oc (dI ((o.Meta.Owners.length:Int)))),(36,oc (dI k))],[some (.map (eM1 (Value.int .i64) (fun x=>x) ol)),xb (bObject o)]⟩:=by
 rw[F14h]at h
 simp only[cF14h,VW.down,Nat.reduceEqDiff,reduceCtorEq,Nat.reduceAdd,Nat.reduceLeDiff,Nat.reduceLT,Nat.reduceBEq,Nat.reduceSub,EE.down]
 obtain⟨y1,hy1,h⟩:=bi h
 refine t_idxF (enc:=eOwner) (xs:=o.Meta.Owners) rfl rfl hy1 rfl (ww ?_)
 cases h
 exact eM [some 0,some 1,some 2] rfl
def cF14j:AC:=(.reg [Qm 54 28 1,
Qa 28 54])
def F14j(l:List Object)(ol:List (Int×D))(i:Int):Option (Unit):=some (())
theorem F14j_ok{l ol i r}(h:F14j l ol i=some r):sK Try.prog 155 0 cF14j [] (sM 155 0 (fun s=>s=⟨[(0,oc (dM (l.map eObject))),(3,oc (.mref 0)),(26,oc (dM (l.map eObject))),(27,oc (dI ((l.length:Int)))),(28,oc (dI ((IntKind.i64.wrap (i+1)))))],[some (.map (eM1 (Value.int .i64) (fun x=>x) ol))]⟩) (xQ 155 0 (fun _ _=>False) (fun _=>False)))
 ⟨[(0,oc (dM (l.map eObject))),(3,oc (.mref 0)),(26,oc (dM (l.map eObject))),(27,oc (dI ((l.length:Int)))),(28,oc (dI i))],[some (.map (eM1 (Value.int .i64) (fun x=>x) ol))]⟩:=by
 rw[F14j]at h
 simp only[cF14j,VW.down,Nat.reduceEqDiff,reduceCtorEq,Nat.reduceAdd,Nat.reduceLeDiff,Nat.reduceLT,Nat.reduceBEq,Nat.reduceSub,EE.down]
 cases h
 exact eM [some 0] rfl
def cF14q:AC:=(.reg [Qm 92 77 1,
Qa 77 92])
def F14q(om:List (Int×List Int))(mo:D)(it:D)(ys:List Int)(k:Int):Option (Unit):=some (())
theorem F14q_ok{om mo it ys k r}(h:F14q om mo it ys k=some r):sK Try.prog 155 0 cF14q [] (sM 155 0 (fun s=>s=⟨[(3,oc (.mref 0)),(8,oc (.d (mo))),(68,oc (.d (it))),(75,oc (dM (ys.map eI))),(76,oc (dI ((ys.length:Int)))),(77,oc (dI ((IntKind.i64.wrap (k+1)))))],[some (.map (eM1 (Value.int .i64) (fun x=> .sl (x.map eI)) om))]⟩) (xQ 155 0 (fun _ _=>False) (fun _=>False)))
 ⟨[(3,oc (.mref 0)),(8,oc (.d (mo))),(68,oc (.d (it))),(75,oc (dM (ys.map eI))),(76,oc (dI ((ys.length:Int)))),(77,oc (dI k))],[some (.map (eM1 (Value.int .i64) (fun x=> .sl (x.map eI)) om))]⟩:=by
 rw[F14q]at h
 simp only[cF14q,VW.down,Nat.reduceEqDiff,reduceCtorEq,Nat.reduceAdd,Nat.reduceLeDiff,Nat.reduceLT,Nat.reduceBEq,Nat.reduceSub,EE.down]
 cases h
 exact eM [some 0] rfl
def cF14v:AC:=(.reg [Qe 19 0])
def F14v(om:List (Int×List Int))(lm:List (Int×Int))(free:List Int):Option (Unit):=some (())
theorem F14v_ok{om lm free r}(h:F14v om lm free=some r):sK Try.prog 155 0 cF14v [] (sM 155 0 (fun s=>s=⟨[(3,oc (.mref 0)),(8,oc (.mref 1)),(16,oc (.own 2 0 0 (free.length) none)),(19,oc (dI 0))],[some (.map (eM1 (Value.int .i64) (fun x=> .sl (x.map eI)) om)),some (.map (eM1 (Value.int .i64) (fun x=> .v (.int .i64 x)) lm)),some (.arr 0 1 (free.map eI))]⟩) (xQ 155 0 (fun _ _=>False) (fun _=>False)))
 ⟨[(3,oc (.mref 0)),(8,oc (.mref 1)),(16,oc (.own 2 0 0 (free.length) none))],[some (.map (eM1 (Value.int .i64) (fun x=> .sl (x.map eI)) om)),some (.map (eM1 (Value.int .i64) (fun x=> .v (.int .i64 x)) lm)),some (.arr 0 1 (free.map eI))]⟩:=by
 rw[F14v]at h
 simp only[cF14v,VW.down,Nat.reduceEqDiff,reduceCtorEq,Nat.reduceAdd,Nat.reduceLeDiff,Nat.reduceLT,Nat.reduceBEq,Nat.reduceSub,EE.down]
 cases h
 exact eM [some 0,some 1,some 2] rfl
def cF14wc:AC:=(.reg [Qa 120 19,
Qm 121 120 1,
Qa 19 121])
def F14wc(om:List (Int×List Int))(lm:List (Int×Int))(free:List Int)(dn:Int)(uid:Int):Option (Unit):=some (())
theorem F14wc_ok{om lm free dn uid r}(h:F14wc om lm free dn uid=some r):sK Try.prog 155 0 cF14wc [] (sM 155 0 (fun s=>s=⟨[(3,oc (.mref 0)),(8,oc (.mref 1)),(16,oc (.own 2 0 0 (free.length) none)),(19,oc (dI ((IntKind.i64.wrap (dn+1))))),(20,oc (dI uid))],[some (.map (eM1 (Value.int .i64) (fun x=> .sl (x.map eI)) om)),some (.map (eM1 (Value.int .i64) (fun x=> .v (.int .i64 x)) lm)),some (.arr 0 1 (free.map eI))]⟩) (xQ 155 0 (fun _ _=>False) (fun _=>False)))
 ⟨[(3,oc (.mref 0)),(8,oc (.mref 1)),(16,oc (.own 2 0 0 (free.length) none)),(19,oc (dI dn)),(20,oc (dI uid))],[some (.map (eM1 (Value.int .i64) (fun x=> .sl (x.map eI)) om)),some (.map (eM1 (Value.int .i64) (fun x=> .v (.int .i64 x)) lm)),some (.arr 0 1 (free.map eI))]⟩:=by
 rw[F14wc]at h
 simp only[cF14wc,VW.down,Nat.reduceEqDiff,reduceCtorEq,Nat.reduceAdd,Nat.reduceLeDiff,Nat.reduceLT,Nat.reduceBEq,Nat.reduceSub,EE.down]
 cases h
 exact eM [some 0,some 1,some 2] rfl
def F14wf_l1:List Int→Nat→(List (Int×Int))→(List Int)→Option ((List (Int×Int))×(List Int))
 |[],o1_2,o1_0,o1_1=>some ((o1_0,o1_1))
 |xo1::xs,o1_2,o1_0,o1_1=>(((if(nb ((getM xo1 o1_0).isSome))=true then some ((o1_0,o1_1))else(if((getM xo1 ((putM xo1 ((IntKind.i64.wrap ((((getM xo1 o1_0).getD ((0:Int))))-1))) o1_0))).getD ((0:Int)))=0 then(apI o1_1 ([xo1])).bind fun a6=>some (((putM xo1 ((IntKind.i64.wrap ((((getM xo1 o1_0).getD ((0:Int))))-1))) o1_0),a6))else some (((putM xo1 ((IntKind.i64.wrap ((((getM xo1 o1_0).getD ((0:Int))))-1))) o1_0),o1_1))))).bind fun o3=>F14wf_l1 xs (o1_2+1) o3.1 o3.2)
def cF14wf:AC:=(.sem (.block 14 (.loop (.seq (.reg [Qn 127 126 125])
 (.seq (.cond (.t 127)
 .skip
 (.exit 14))
 (.seq (.sem (.block 15 (.seq (.reg [Qp 128 1 124 126,
Qd 129 128,
Qa 22 129])
 (.seq (.seq (.reg [Qa 131 8,
Qa 132 22,
sq 133 (.mget 0 true (.c (dI 0)) (.t 131) (.t 132)),
Qa 130 133,
Qo 134 130 0,
Qo 135 130 1,
Qa 23 134,
Qa 24 135])
 (.seq (.reg [Qa 136 24,
Qq 137 136])
 (.cond (.t 137)
 (.exit 15)
 .skip)))
 (.seq (.reg [Qa 138 8,
Qa 139 22,
sq 140 (.mget 0 false (.c (dI 0)) (.t 138) (.t 139)),
sq 141 (.bin .sub (.t 140) (kI 1)),
su (.mset 0 (.t 138) (.t 139) (.t 141))])
 (.seq (.reg [Qa 142 8,
Qa 143 22,
sq 144 (.mget 0 false (.c (dI 0)) (.t 142) (.t 143)),
Qr 145 144 0])
 (.cond (.t 145)
 (.reg [Qa 146 16,
Qa 147 22,
sq 148 (.bslice 1 [(.t 147)]),
sq 149 (.app 1 8 (.t 146) (.t 148)),
Qa 16 149])
 .skip)))))))
 (.reg [Qm 150 126 1,
Qa 126 150])))))))
def F14wf(om:List (Int×List Int))(lm:List (Int×Int))(free:List Int)(dn:Int)(ys:List Int):Option ((List (Int×Int))×(List Int)):=(((ck (0≤ys.length∧ys.length≤4294967290)).bind fun u7=>F14wf_l1 ys 0 lm free).bind fun o1=>some ((o1.1,o1.2)))
theorem F14wf_ok{om lm free dn ys r}(h:F14wf om lm free dn ys=some r):sK Try.prog 155 0 cF14wf [] (sM 155 0 (fun s=>s=⟨[(3,oc (.mref 0)),(8,oc (.mref 1)),(16,oc (.own 2 0 0 (r.2.length) none)),(19,oc (dI dn))],[some (.map (eM1 (Value.int .i64) (fun x=> .sl (x.map eI)) om)),some (.map (eM1 (Value.int .i64) (fun x=> .v (.int .i64 x)) r.1)),some (.arr 0 1 (r.2.map eI))]⟩) (xQ 155 0 (fun _ _=>False) (fun _=>False)))
 ⟨[(3,oc (.mref 0)),(8,oc (.mref 1)),(16,oc (.own 2 0 0 (free.length) none)),(19,oc (dI dn)),(124,oc (dM (ys.map eI))),(125,oc (dI ((ys.length:Int)))),(126,oc (dI 0))],[some (.map (eM1 (Value.int .i64) (fun x=> .sl (x.map eI)) om)),some (.map (eM1 (Value.int .i64) (fun x=> .v (.int .i64 x)) lm)),some (.arr 0 1 (free.map eI))]⟩:=by
 rw[F14wf]at h
 simp only[cF14wf,VW.down,Nat.reduceEqDiff,reduceCtorEq,Nat.reduceAdd,Nat.reduceLeDiff,Nat.reduceLT,Nat.reduceBEq,Nat.reduceSub,EE.down]
 obtain⟨o1,ho,h⟩:=bi h
 refine cutS (fun s=>s=⟨[(3,oc (.mref 0)),(8,oc (.mref 1)),(16,oc (.own 2 0 0 (o1.2.length) none)),(19,oc (dI dn))],[some (.map (eM1 (Value.int .i64) (fun x=> .sl (x.map eI)) om)),some (.map (eM1 (Value.int .i64) (fun x=> .v (.int .i64 x)) o1.1)),some (.arr 0 1 (o1.2.map eI))]⟩) ?_ ?_
 ·have h:=ho
  clear ho
  obtain⟨_,hk,h⟩:=bi h
  have hk:=ck_some hk
  refine ww ?_
  refine bL (fun j s=>∃(o1_2:Nat) (o1_0:List (Int×Int)) (o1_1:List Int),(o1_2≤ys.length∧j=ys.length-o1_2)∧s=⟨[(3,oc (.mref 0)),(8,oc (.mref 1)),(16,oc (.own 2 0 0 (o1_1.length) none)),(19,oc (dI dn)),(124,oc (dM (ys.map eI))),(125,oc (dI ((ys.length:Int)))),(126,oc (dI ((o1_2:Int))))],[some (.map (eM1 (Value.int .i64) (fun x=> .sl (x.map eI)) om)),some (.map (eM1 (Value.int .i64) (fun x=> .v (.int .i64 x)) o1_0)),some (.arr 0 1 (o1_1.map eI))]⟩∧F14wf_l1 (ys.drop o1_2) o1_2 o1_0 o1_1=some o1) (ys.length-0) [some 0,some 1,some 2] ⟨0,lm,free,⟨hk.1,rfl⟩,rfl,h⟩ ?_
  rintro _ _ ⟨o1_2,o1_0,o1_1,⟨hi,rfl⟩,rfl,h⟩
  refine ww ?_
  refine condS (fun c2=>?_) (fun c2=>?_)
  ·obtain⟨xo1,hxo1,hd⟩:=countY (show(o1_2:Int)<(ys.length:Int)from c2)
   rw[hd,F14wf_l1]at h
   refine ww ?_
   obtain⟨o3,ho,h⟩:=bi h
   refine cutS (fun s=>s=⟨[(3,oc (.mref 0)),(8,oc (.mref 1)),(16,oc (.own 2 0 0 (o3.2.length) none)),(19,oc (dI dn)),(124,oc (dM (ys.map eI))),(125,oc (dI ((ys.length:Int)))),(126,oc (dI ((o1_2:Int))))],[some (.map (eM1 (Value.int .i64) (fun x=> .sl (x.map eI)) om)),some (.map (eM1 (Value.int .i64) (fun x=> .v (.int .i64 x)) o3.1)),some (.arr 0 1 (o3.2.map eI))]⟩) ?_ ?_
   ·have h:=ho
    clear ho
    refine ww ?_
    refine t_idxF (enc:=eI) (xs:=ys) rfl rfl hxo1 rfl (ww ?_)
    refine t_mget1k (enc:=(fun x=> .v (.int .i64 x))) (l:=o1_0) (z:=(0:Int)) kkI rfl rfl rfl rfl (ww ?_)
    refine condBh h (fun c4 h=>ww ?_) (fun c4 h=>?_)
    ·cases h
     exact eM [some 0,some 1,some 2] rfl
    ·refine ww ?_
     refine t_mget1 (enc:=(fun x=> .v (.int .i64 x))) (l:=o1_0) (z:=(0:Int)) kkI rfl rfl rfl rfl (ww ?_)
     refine t_mset1 (enc:=(fun x=> .v (.int .i64 x))) (l:=o1_0) (x:=(IntKind.i64.wrap ((((getM xo1 o1_0).getD ((0:Int))))-1))) kkI rfl rfl rfl rfl (ww ?_)
     refine t_mget1 (enc:=(fun x=> .v (.int .i64 x))) (l:=((putM xo1 ((IntKind.i64.wrap ((((getM xo1 o1_0).getD ((0:Int))))-1))) o1_0))) (z:=(0:Int)) kkI rfl rfl rfl rfl (ww ?_)
     refine condSh h (fun c5 h=>ww ?_) (fun c5 h=>?_)
     ·refine t_bslice (enc:=eI) (ys:=[xo1]) rfl rfl (by simp[A1.cells]) (by first|rfl|(simp only[List.drop_zero,take_mapL];rfl)|(simp only[lit,List.map_cons,List.map_nil,List.drop_zero,take_mapL,EE.down];done)|(simp only[lit,List.map_cons,List.map_nil,List.drop_zero,take_mapL,EE.down];rfl)) (ww ?_)
      obtain⟨a6,ha6,h⟩:=bi h
      refine t_app (enc:=eI) (xs:=o1_1) rfl rfl (by first|rfl|simp only[List.length_set]|exact(clrL_len (slI_len (by assumption))).symm) rfl (rows_full (enc:=eI) (by first|rfl|simp only[List.length_set]|exact(clrL_len (slI_len (by assumption))).symm) rfl) ha6 (ww ?_)
      cases h
      exact eM [some 0,some 1,some 2] rfl
     ·refine ww ?_
      cases h
      exact eM [some 0,some 1,some 2] rfl
   ·rintro _ rfl
    clear ho
    refine ww ?_
    rw[wrapN (by omega)]
    exact eL' (ys.length-(o1_2+1)) [some 0,some 1,some 2] ⟨o1_2+1,o3.1,o3.2,⟨by omega,rfl⟩,rfl,h⟩ (by omega)
  ·rw[countN (show¬((o1_2:Int)<(ys.length:Int))from c2),F14wf_l1]at h
   refine ww ?_
   cases h
   exact eM [some 0,some 1,some 2] rfl
 ·rintro _ rfl
  clear ho
  refine ww ?_
  cases h
  exact eM [some 0,some 1,some 2] rfl
end Go.Proofs.Ytdejhahgpojnoaa
