/- Each Go function as a function over typed data, and its walk. -/
import Derived.Test.YtojbebejhgbfeaaGreatW0
open Option renaming some->XC,none->XD,map_eq_some_iff->XF
open Go.Proofs.Tryz renaming prog->XG
open Bool renaming false->XH,true->XI
open Go.IntKind renaming i64->XJ
open Sum renaming inr->XK,inl->XL
namespace Go.Proofs.YtojbebejhgbfeaaGreat
open Go Go.Fw Go.Shelf
set_option maxRecDepth 100000
set_option maxHeartbeats 4000000
set_option linter.unusedSimpArgs false
set_option linter.unusedVariables false
def F109(x0:aw)(b0:ByteArray):Option (Unit):=XC (())
def a109:dG:=⟨8,[(.tmp 3)],
 (.seq (.reg [Qg 2 0,
Qf 3 XH])
 (.seq (.reg [Qb 4 0 2,
Qd 5 4,
Qd 6 1,
sq 7 (.bin .eql (.t 5) (.t 6)),
Qa 3 7])
 .ret))⟩
theorem F109_ok{x0 b0 r}(h:F109 x0 b0=XC r):aW XG 109 [.agg (lf x0),.c (.pt 0 0)] [xb [dS b0]] (bJ [.c (dB (decide (x0.aV=b0)))]) [xb [dS b0]]:=by
 rw[F109]at h
 refine zc a109 (by kernel_rfl) rfl (ww ?_)
 cases h
 exact eF [XC 0]
def F200(x0:Int)(x1:ag):Option (Bool):=(((if x1.bH=2 then(if x0=2 then XC XI else(if x0=1 then XC (decide (x1.bM=0))else XC XH))else XC XH)).bind fun o1=>XC o1)
def a200:dG:=⟨21,[(.tmp 4)],
 (.seq (.reg [Qg 3 1,
Qf 4 XH])
 (.seq (.sem (.reg [Qb 5 1 3,
Qd 6 5,
Qr 7 6 2,
Qa 8 7,
Qv 9 8 XI 0,
zg 10 8 XI (.bin .eql (.t 9) (kI 2)),
Qv 11 8 XI 10,
Qv 12 11 XH 0,
zg 13 11 XH (.bin .eql (.t 12) (kI 1)),
Qv 14 11 XH 13,
Qs 15 14 XI 3 3,
Qt 16 14 XI 15,
zg 17 14 XI (.bin .eql (.t 16) (kI 0)),
zg 18 11 XH (.pick (.t 14) (.t 17) (kB XH)),
zg 19 8 XI (.pick (.t 11) (kB XI) (.t 18)),
Qi 20 8 19,
Qa 4 20]))
 .ret))⟩
theorem F200_ok{x0 x1 r}(h:F200 x0 x1=XC r):aW XG 200 [.c (dI x0),.agg (dw x1)] [] (bJ [.c (dB r)]) []:=by
 rw[F200]at h
 refine zc a200 (by kernel_rfl) rfl (ww ?_)
 obtain⟨o1,ho,h⟩:=bi h
 refine bD (fun s=>s=⟨[(4,oB o1)],[]⟩) ?_ ?_
 ·have h:=ho
  refine ww ?_
  refine bR h (fun g2 h=>ww ?_) (fun g2 h=>ww ?_)
  ·refine bR h (fun g3 h=>ww ?_) (fun g3 h=>ww ?_)
   ·cases h
    exact eM [] rfl
   refine bR h (fun g4 h=>ww ?_) (fun g4 h=>ww ?_)
   ·cases h
    exact eM [] rfl
   cases h
   exact eM [] rfl
  cases h
  exact eM [] rfl
 rintro _ rfl
 refine ww ?_
 cases h
 exact eF []
def F62(x0:af):Option (Bool):=(((if x0.an.ae.bC=2 then XC XI else XC (decide (x0.an.ae.bC=3)))).bind fun o1=>XC o1)
def a62:dG:=⟨15,[(.tmp 2)],
 (.seq (.reg [Qg 1 0,
Qf 2 XH])
 (.seq (.sem (.reg [Qb 3 0 1,
Qb 4 23 3,
Qb 5 0 4,
Qd 6 5,
Qr 7 6 2,
Qa 8 7,
Qs 9 8 XH 0 1,
Qs 10 8 XH 23 9,
Qs 11 8 XH 0 10,
Qt 12 8 XH 11,
zg 13 8 XH (.bin .eql (.t 12) (kI 3)),
Qj 14 8 13,
Qa 2 14]))
 .ret))⟩
theorem F62_ok{x0 r}(h:F62 x0=XC r):aW XG 62 [.agg (gb x0)] [] (bJ [.c (dB r)]) []:=by
 rw[F62]at h
 refine zc a62 (by kernel_rfl) rfl (ww ?_)
 obtain⟨o1,ho,h⟩:=bi h
 refine bD (fun s=>s=⟨[(2,oB o1)],[]⟩) ?_ ?_
 ·have h:=ho
  refine ww ?_
  refine bR h (fun g2 h=>ww ?_) (fun g2 h=>ww ?_)
  ·cases h
   exact eM [] rfl
  cases h
  exact eM [] rfl
 rintro _ rfl
 refine ww ?_
 cases h
 exact eF []
def F183(x0:Int):Option (Unit):=XC (())
def a183:dG:=⟨6,[(.tmp 2)],
 (.seq (.reg [Qe 2 0])
 (.seq (.reg [Qa 3 0,
sq 4 (.max (.t 3) (kI 0)),
sq 5 (.min (.t 4) (kI 1000000000000000)),
Qa 2 5])
 .ret))⟩
theorem F183_ok{x0 r}(h:F183 x0=XC r):aW XG 183 [.c (dI x0)] [] (bJ [.c (dI ((if 1000000000000000<(if x0<0 then 0 else x0)then 1000000000000000 else(if x0<0 then 0 else x0))))]) []:=by
 rw[F183]at h
 refine zc a183 (by kernel_rfl) rfl (ww ?_)
 cases h
 exact eF []
noncomputable def OY:Func:=(Tryz.prog.funcs[192]?).getD default
theorem Iw:Tryz.prog.funcs[192]? =XC OY:=by kernel_rfl
theorem OQ(e0 e1 o0 o1 l0 l1:Nat)(c0 c1:Option Nat)(r0 r1:List (List D)):
 aW XG 192 [.c (.own 0 e0 o0 l0 c0),.c (.own 1 e1 o1 l1 c1)] [XC (.arr e0 3 r0),XC (.arr e1 3 r1)] (.one (aB XH)) [XC (.arr e0 3 r0),XC (.arr e1 3 r1)]:=
 xL (tS:=31) (tT:=4) (e:=81) (ps:= #[31,31]) (rs:= #[4]) Iw (by kernel_rfl) (by kernel_rfl) (by kernel_rfl) (by kernel_rfl) rfl rfl (by kernel_rfl) (by kernel_rfl) e0 e1 o0 o1 l0 l1 c0 c1 r0 r1
def F126_l1:List aw→Nat→Int→Option (Int)
 |[],o1_1,o1_0=>XC o1_0
 |xo1::xs,o1_1,o1_0=>F126_l1 xs (o1_1+1) ((XJ.wrap (o1_0+xo1.dW)))
def F126(x0:(List aw)):Option (Int):=(((ck (0≤x0.length∧x0.length≤4294967290)).bind fun u3=>F126_l1 x0 0 0).bind fun o1=>XC o1)
def a126:dG:=⟨18,[(.tmp 2)],
 (.seq (.reg [Qe 2 0])
 (.seq (.reg [Qe 3 0])
 (.seq (.seq (.reg [Qa 6 0,
Qh 7 6,
Qe 8 0])
 (.sem (.block 0 (.loop (.seq (.reg [Qn 9 8 7])
 (.seq (.cond (.t 9)
 .skip
 (.exit 0))
 (.seq (.block 1 (.seq (.reg [Qp 10 3 6 8,
Qc 11 3 10,
sq 5 (.zbox [dS ⟨#[]⟩,dI 0,dI 0]),
su (.store 3 (.t 5) (.t 11))])
 (.reg [Qa 12 3,
Qb 13 1 5,
Qd 14 13,
sq 15 (.bin .add (.t 12) (.t 14)),
Qa 3 15])))
 (.reg [Qm 16 8 1,
Qa 8 16]))))))))
 (.seq (.reg [Qa 17 3,
Qa 2 17])
 .ret))))⟩
theorem F126_ok{x0 r}(h:F126 x0=XC r):aW XG 126 [.c (dM (x0.map aR))] [] (bJ [.c (dI r)]) []:=by
 rw[F126]at h
 refine zc a126 (by kernel_rfl) rfl (ww ?_)
 obtain⟨o1,ho,h⟩:=bi h
 refine bD (fun s=>s=⟨[(3,oI o1)],[]⟩) ?_ ?_
 ·have h:=ho
  obtain⟨_,hk,h⟩:=bi h
  have hk:=cr hk
  refine ww ?_
  refine bL (fun j s=>∃(o1_1:Nat) (o1_0:Int),(o1_1≤x0.length∧j=x0.length-o1_1)∧s=⟨[(3,oI o1_0),(6,oM (x0.map aR)),(7,oI (x0.length:Int)),(8,oI (o1_1:Int))],[]⟩∧F126_l1 (x0.drop o1_1) o1_1 o1_0=XC o1) (x0.length-0) [] ⟨0,0,⟨hk.1,rfl⟩,rfl,h⟩ ?_
  rintro _ _ ⟨o1_1,o1_0,⟨hi,rfl⟩,rfl,h⟩
  refine ww ?_
  refine dq (fun c2=>?_) (fun c2=>?_)
  ·obtain⟨xo1,hxo1,hd⟩:=cW (show(o1_1:Int)<(x0.length:Int)from c2)
   rw[hd,F126_l1]at h
   refine ww ?_
   refine bI (enc:=aR) (xs:=x0) rfl rfl hxo1 rfl (ww ?_)
   rw[cL (by omega)]
   exact jo (x0.length-(o1_1+1)) [] ⟨o1_1+1,(XJ.wrap (o1_0+xo1.dW)),⟨by omega,rfl⟩,rfl,h⟩ (by omega)
  rw[cX (show¬((o1_1:Int)<(x0.length:Int))from c2),F126_l1]at h
  refine ww ?_
  cases h
  exact eM [] rfl
 rintro _ rfl
 refine ww ?_
 cases h
 exact eF []
def F219_l1(x1:ByteArray):List ByteArray→Nat→Option ((Int) ⊕ (Unit))
 |[],o1_0=>XC (XK (()))
 |xo1::xs,o1_0=>(if x1=xo1 then(XC ((o1_0:Int))).map XL else F219_l1 x1 xs (o1_0+1))
def F219(x0:(List ByteArray))(x1:ByteArray):Option (Int):=(((ck (0≤x0.length∧x0.length≤4294967290)).bind fun u4=>F219_l1 x1 x0 0:Option ((Int) ⊕ (Unit))).bind fun o1=>match o1 with|XL f=>XC f|XK po1=>XC ((-1)))
def a219:dG:=⟨19,[(.tmp 4)],
 (.seq (.reg [Qe 4 0])
 (.seq (.seq (.reg [Qa 6 0,
Qh 7 6,
Qe 8 0])
 (.sem (.block 0 (.loop (.seq (.reg [Qn 9 8 7])
 (.seq (.cond (.t 9)
 .skip
 (.exit 0))
 (.seq (.block 1 (.seq (.reg [Qa 10 8,
Qa 5 10])
 (.seq (.reg [Qa 11 1,
Qa 12 0,
Qa 13 5,
Qp 14 1 12 13,
Qd 15 14,
sq 16 (.bin .eql (.t 11) (.t 15))])
 (.cond (.t 16)
 (.seq (.reg [Qa 17 5,
Qa 4 17])
 .ret)
 .skip))))
 (.reg [Qm 18 8 1,
Qa 8 18]))))))))
 (.seq (.reg [sq 4 (.mv (kI (-1)))])
 .ret)))⟩
theorem F219_ok{x0 x1 r}(h:F219 x0 x1=XC r):aW XG 219 [.c (dM (x0.map eS)),.c (dS x1)] [] (bJ [.c (dI r)]) []:=by
 rw[F219]at h
 refine zc a219 (by kernel_rfl) rfl (ww ?_)
 obtain⟨o1,ho,h⟩:=bi h
 refine bD (fun s=>∃po1,o1=XK po1∧s=⟨[],[]⟩) ?_ ?_
 ·have h0o1:=h
  have h:=ho
  obtain⟨_,hk,h⟩:=bi h
  have hk:=cr hk
  refine ww ?_
  refine bL (fun j s=>∃(o1_0:Nat),(o1_0≤x0.length∧j=x0.length-o1_0)∧s=⟨[(0,oM (x0.map eS)),(1,oS x1),(7,oI (x0.length:Int)),(8,oI (o1_0:Int))],[]⟩∧F219_l1 x1 (x0.drop o1_0) o1_0=XC o1) (x0.length-0) [] ⟨0,⟨hk.1,rfl⟩,rfl,h⟩ ?_
  rintro _ _ ⟨o1_0,⟨hi,rfl⟩,rfl,h⟩
  refine ww ?_
  refine dq (fun c2=>?_) (fun c2=>?_)
  ·obtain⟨xo1,hxo1,hd⟩:=cW (show(o1_0:Int)<(x0.length:Int)from c2)
   rw[hd,F219_l1]at h
   refine ww ?_
   refine bI (enc:=eS) (xs:=x0) rfl rfl hxo1 rfl (ww ?_)
   refine bG h (fun c3 h=>ww ?_) (fun c3 h=>ww ?_)
   ·obtain⟨fh0o1,hfh0o1,rfl⟩:=XF.1 h
    have h:=hfh0o1.trans h0o1
    cases h
    exact eF []
   rw[cL (by omega)]
   exact jo (x0.length-(o1_0+1)) [] ⟨o1_0+1,⟨by omega,rfl⟩,rfl,h⟩ (by omega)
  rw[cX (show¬((o1_0:Int)<(x0.length:Int))from c2),F219_l1]at h
  refine ww ?_
  cases h
  exact eM [] ⟨_,rfl,rfl⟩
 rintro _ ⟨po1,rfl,rfl⟩
 dsimp only at h
 refine ww ?_
 cases h
 exact eF []
def F122(x0:aP)(b0:ByteArray):Option (Unit):=XC (())
def a122:dG:=⟨8,[(.tmp 3)],
 (.seq (.reg [Qg 2 0,
Qf 3 XH])
 (.seq (.reg [Qb 4 0 2,
Qd 5 4,
Qd 6 1,
sq 7 (.bin .eql (.t 5) (.t 6)),
Qa 3 7])
 .ret))⟩
theorem F122_ok{x0 b0 r}(h:F122 x0 b0=XC r):aW XG 122 [.agg (fG x0),.c (.pt 0 0)] [xb [dS b0]] (bJ [.c (dB (decide (x0.aV=b0)))]) [xb [dS b0]]:=by
 rw[F122]at h
 refine zc a122 (by kernel_rfl) rfl (ww ?_)
 cases h
 exact eF [XC 0]
theorem a70_ok:nv XG 70=XC (lQ 36 544):=by kernel_rfl
theorem F70_ok{x0 r:List af}(h:gw x0=XC r):aW XG 70 [.c (dM (x0.map bT))] [] (bJ [.c (.own 0 1 0 r.length XD)]) [fj 1 r]:=sa a70_ok (fun _=>rfl) h
def Tryz.rH:Go.Shelf.Ren:=⟨fun|194=>65|n=>n,fun|31=>24|9=>9|3=>3|4=>4|0=>0|n=>n,fun|n=>n⟩
theorem Tryz.Ii:Go.Proofs.Lays.n194 XG Tryz.rH:={
 mixed:=by kernel_rfl
 f194:=Tryz.func65.trans (congrArg XC (by kernel_rfl))
 t0:=Tryz.underlying0
 a0:=Tryz.isAgg0
 z0:=Tryz.sizeOf0
 v0:=Tryz.zeroValue0
 t3:=Tryz.underlying3
 a3:=Tryz.isAgg3
 z3:=Tryz.sizeOf3
 v3:=Tryz.zeroValue3
 t4:=Tryz.underlying4
 a4:=Tryz.isAgg4
 z4:=Tryz.sizeOf4
 v4:=Tryz.zeroValue4
 t9:=Tryz.underlying9
 a9:=Tryz.isAgg9
 z9:=Tryz.sizeOf9
 v9:=Tryz.zeroValue9
 t31:=Tryz.underlying24
 a31:=Tryz.isAgg24
 z31:=Tryz.sizeOf24
 v31:=Tryz.zeroValue24}
theorem F65_ok{x0 r:List ByteArray}{e0:Nat}(h:E2 x0=XC r):aW XG 65 [.c (.own 0 e0 0 x0.length XD)] [iS e0 x0] (bJ [.c (.own 0 (e0+1) 0 r.length XD)]) [iS (e0+1) r]:=Oe (ρ:=Tryz.rH) Tryz.Ii rfl (by kernel_rfl) h
def F26_l1:List aP→Nat→Option ((Bool) ⊕ (Unit))
 |[],o1_0=>XC (XK (()))
 |xo1::xs,o1_0=>(((if 3<(xo1.jl.length:Int)then XC XI else(if 3<(xo1.bd.length:Int)then XC XI else(if 3<(xo1.dt.length:Int)then XC XI else(if 60<(xo1.aV.size:Int)then XC XI else XC (decide (60<(xo1.aw.size:Int)))))))).bind fun o3=>(if o3=XI then(XC XH).map XL else F26_l1 xs (o1_0+1)))
def F26(x0:an):Option (Bool):=(((ck (0≤x0.Spec.ad.length∧x0.Spec.ad.length≤4294967290)).bind fun u9=>F26_l1 x0.Spec.ad 0:Option ((Bool) ⊕ (Unit))).bind fun o1=>match o1 with|XL f=>XC f|XK po1=>(((if(x0.Spec.ad.length:Int)≤5 then(if(x0.ak.cS.length:Int)≤20 then(if(x0.ak.cZ.length:Int)≤20 then(if(x0.ak.b9.length:Int)≤5 then XC (decide ((x0.ae.ad.length:Int)≤8))else XC XH)else XC XH)else XC XH)else XC XH)).bind fun o10=>XC o10))
def a26:dG:=⟨80,[(.tmp 2)],
 (.seq (.reg [Qg 1 0,
Qf 2 XH])
 (.seq (.seq (.reg [Qe 3 0])
 (.sem (.block 0 (.loop (.seq (.seq (.reg [Qa 5 3,
Qb 6 13 1,
Qb 7 4 6,
Qd 8 7,
Qh 9 8,
Qn 10 5 9])
 (.cond (.t 10)
 .skip
 (.exit 0)))
 (.seq (.block 1 (.seq (.reg [Qb 13 13 1,
Qb 14 4 13,
Qd 15 14,
Qa 16 3,
Qp 17 11 15 16,
Qc 18 11 17,
sq 4 (.zbox [dS ⟨#[]⟩,dS ⟨#[]⟩,dI 0,dI 0,dI 0,dI 0,dI 0,dI 0,dN,dN,dN]),
su (.store 11 (.t 4) (.t 18))])
 (.seq (.sem (.reg [Qb 19 8 4,
Qd 20 19,
Qh 21 20,
sq 22 (.bin .gtr (.t 21) (kI 3)),
Qa 23 22,
Qs 24 23 XH 9 4,
Qt 25 23 XH 24,
zg 26 23 XH (.len (.t 25)),
zg 27 23 XH (.bin .gtr (.t 26) (kI 3)),
Qj 28 23 27,
Qa 29 28,
Qs 30 29 XH 10 4,
Qt 31 29 XH 30,
zg 32 29 XH (.len (.t 31)),
zg 33 29 XH (.bin .gtr (.t 32) (kI 3)),
Qj 34 29 33,
Qa 35 34,
Qs 36 35 XH 0 4,
Qt 37 35 XH 36,
zg 38 35 XH (.slen (.t 37)),
zg 39 35 XH (.bin .gtr (.t 38) (kI 60)),
Qj 40 35 39,
Qa 41 40,
Qs 42 41 XH 1 4,
Qt 43 41 XH 42,
zg 44 41 XH (.slen (.t 43)),
zg 45 41 XH (.bin .gtr (.t 44) (kI 60)),
Qj 46 41 45]))
 (.cond (.t 46)
 (.seq (.reg [Qf 2 XH])
 .ret)
 .skip))))
 (.reg [Qa 11 3,
Qm 12 11 1,
Qa 3 12])))))))
 (.seq (.sem (.reg [Qb 47 13 1,
Qb 48 4 47,
Qd 49 48,
Qh 50 49,
sq 51 (.bin .leq (.t 50) (kI 5)),
Qa 52 51,
Qs 53 52 XI 0 1,
Qs 54 52 XI 9 53,
Qt 55 52 XI 54,
zg 56 52 XI (.len (.t 55)),
zg 57 52 XI (.bin .leq (.t 56) (kI 20)),
Qi 58 52 57,
Qa 59 58,
Qs 60 59 XI 0 1,
Qs 61 59 XI 10 60,
Qt 62 59 XI 61,
zg 63 59 XI (.len (.t 62)),
zg 64 59 XI (.bin .leq (.t 63) (kI 20)),
Qi 65 59 64,
Qa 66 65,
Qs 67 66 XI 0 1,
Qs 68 66 XI 12 67,
Qt 69 66 XI 68,
zg 70 66 XI (.len (.t 69)),
zg 71 66 XI (.bin .leq (.t 70) (kI 5)),
Qi 72 66 71,
Qa 73 72,
Qs 74 73 XI 23 1,
Qs 75 73 XI 5 74,
Qt 76 73 XI 75,
zg 77 73 XI (.len (.t 76)),
zg 78 73 XI (.bin .leq (.t 77) (kI 8)),
Qi 79 73 78,
Qa 2 79]))
 .ret)))⟩
theorem F26_ok{x0 r}(h:F26 x0=XC r):aW XG 26 [.agg (jD x0)] [] (bJ [.c (dB r)]) []:=by
 rw[F26]at h
 refine zc a26 (by kernel_rfl) rfl (ww ?_)
 obtain⟨o1,ho,h⟩:=bi h
 refine bD (fun s=>∃po1,o1=XK po1∧s=⟨[(1,Pz 0)],[xb (jD x0)]⟩) ?_ ?_
 ·have h0o1:=h
  have h:=ho
  obtain⟨_,hk,h⟩:=bi h
  have hk:=cr hk
  refine ww ?_
  refine bL (fun j s=>∃(o1_0:Nat),(o1_0≤x0.Spec.ad.length∧j=x0.Spec.ad.length-o1_0)∧s=⟨[(1,Pz 0),(3,oI (o1_0:Int))],[xb (jD x0)]⟩∧F26_l1 (x0.Spec.ad.drop o1_0) o1_0=XC o1) (x0.Spec.ad.length-0) [XC 0] ⟨0,⟨hk.1,rfl⟩,rfl,h⟩ ?_
  rintro _ _ ⟨o1_0,⟨hi,rfl⟩,rfl,h⟩
  refine ww ?_
  refine dq (fun c2=>?_) (fun c2=>?_)
  ·obtain⟨xo1,hxo1,hd⟩:=cW (show(o1_0:Int)<(x0.Spec.ad.length:Int)from c2)
   rw[hd,F26_l1]at h
   refine ww ?_
   refine bI (enc:=bo) (xs:=x0.Spec.ad) rfl rfl hxo1 rfl (ww ?_)
   obtain⟨o3,ho,h⟩:=bi h
   refine bD (fun s=>s=⟨[(1,Pz 0),(3,oI (o1_0:Int)),(46,oB o3)],[xb (jD x0)]⟩) ?_ ?_
   ·have h:=ho
    refine ww ?_
    refine bR h (fun g4 h=>ww ?_) (fun g4 h=>ww ?_)
    ·cases h
     exact eM [XC 0] rfl
    refine bR h (fun g5 h=>ww ?_) (fun g5 h=>ww ?_)
    ·cases h
     exact eM [XC 0] rfl
    refine bR h (fun g6 h=>ww ?_) (fun g6 h=>ww ?_)
    ·cases h
     exact eM [XC 0] rfl
    refine bR h (fun g7 h=>ww ?_) (fun g7 h=>ww ?_)
    ·cases h
     exact eM [XC 0] rfl
    cases h
    exact eM [XC 0] rfl
   rintro _ rfl
   refine ww ?_
   refine ct h (fun c8 h=>ww ?_) (fun c8 h=>ww ?_)
   ·obtain⟨fh0o1,hfh0o1,rfl⟩:=XF.1 h
    have h:=hfh0o1.trans h0o1
    cases h
    exact eF []
   rw[cL (by omega)]
   exact jo (x0.Spec.ad.length-(o1_0+1)) [XC 0] ⟨o1_0+1,⟨by omega,rfl⟩,rfl,h⟩ (by omega)
  rw[cX (show¬((o1_0:Int)<(x0.Spec.ad.length:Int))from c2),F26_l1]at h
  refine ww ?_
  cases h
  exact eM [XC 0] ⟨_,rfl,rfl⟩
 rintro _ ⟨po1,rfl,rfl⟩
 dsimp only at h
 refine ww ?_
 obtain⟨o10,ho,h⟩:=bi h
 refine bD (fun s=>s=⟨[(2,oB o10)],[]⟩) ?_ ?_
 ·have h:=ho
  refine ww ?_
  refine bR h (fun g11 h=>ww ?_) (fun g11 h=>ww ?_)
  ·refine bR h (fun g12 h=>ww ?_) (fun g12 h=>ww ?_)
   ·refine bR h (fun g13 h=>ww ?_) (fun g13 h=>ww ?_)
    ·refine bR h (fun g14 h=>ww ?_) (fun g14 h=>ww ?_)
     ·cases h
      exact eM [] rfl
     cases h
     exact eM [] rfl
    cases h
    exact eM [] rfl
   cases h
   exact eM [] rfl
  cases h
  exact eM [] rfl
 rintro _ rfl
 refine ww ?_
 cases h
 exact eF []
def F114k:Nat→(List aw)→Int→Int→Int→Option ((List aw)):=fun _ _ _ _ _=>XD
theorem F114k_len0{k:Nat}{x0:(List aw)}{x1:Int}{x2:Int}{x3:Int}{r:(List aw)}(h:F114k k x0 x1 x2 x3=XC r):r.length=x0.length:=by cases(show(XD:Option ((List aw)))=XC _ from h)
theorem F114k_ok(k:Nat){x0:(List aw)}{x1:Int}{x2:Int}{x3:Int}{r:(List aw)}{e0:Nat}(h:F114k k x0 x1 x2 x3=XC r):aW XG 114 [.c (ow 0 e0 x0),.c (dI x1),.c (dI x2),.c (dI x3),.c (.fn 31 [])] [ba e0 x0] (bJ []) [ba e0 r]:=by cases(show(XD:Option ((List aw)))=XC _ from h)
def Kj:AC:=(.reg [sq 4 (.mv kN)])
def F33a(e:Nat)(xs:List aw):Option (Unit):=XC (())
theorem F33a_ok{e xs r}(h:F33a e xs=XC r):sK XG 66 1 Kj [] (sM 66 1 (fun s=>s=⟨[(0,oc (ow 0 e xs)),(1,oc (.fn 34 []))],[ba e xs]⟩) (xQ 66 1 (fun _ _=>False) (fun _=>False)))
 ⟨[(0,oc (ow 0 e xs)),(1,oc (.fn 34 []))],[ba e xs]⟩:=by
 rw[F33a]at h
 unfold Kj
 refine ww ?_
 cases h
 exact eM [XC 0] rfl
def F34(x0:aw)(x1:aw):Option (Unit):=XC (())
def a34:dG:=⟨10,[(.tmp 4)],
 (.seq (.reg [Qg 2 0,
Qg 3 1,
Qf 4 XH])
 (.seq (.reg [Qb 5 0 2,
Qd 6 5,
Qb 7 0 3,
Qd 8 7,
sq 9 (.bin .eql (.t 6) (.t 8)),
Qa 4 9])
 .ret))⟩
theorem F34_ok{x0 x1 r}(h:F34 x0 x1=XC r):aW XG 34 [.agg (lf x0),.agg (lf x1)] [] (bJ [.c (dB (decide (x0.aV=x1.aV)))]) []:=by
 rw[F34]at h
 refine zc a34 (by kernel_rfl) rfl (ww ?_)
 cases h
 exact eF []
def J5:AC:=(.reg [Qa 16 5,
Qm 17 16 1,
Qa 5 17])
def F33r(e:Nat)(xs:List aw)(k:Int):Option (Unit):=XC (())
theorem F33r_ok{e xs k r}(h:F33r e xs k=XC r):sK XG 66 1 J5 [] (sM 66 1 (fun s=>s=⟨[(0,oc (ow 0 e xs)),(1,oc (.fn 34 [])),(5,oI ((XJ.wrap (k+1))))],[ba e xs]⟩) (xQ 66 1 (fun _ _=>False) (fun _=>False)))
 ⟨[(0,oc (ow 0 e xs)),(1,oc (.fn 34 [])),(5,oI k)],[ba e xs]⟩:=by
 rw[F33r]at h
 unfold J5
 refine ww ?_
 cases h
 exact eM [XC 0] rfl
def Ka:AC:=(.reg [Qa 50 0,
Qa 51 5,
Qa 52 6,
Qa 53 7,
Qp 54 3 52 53,
Qc 55 3 54,
Qp 56 3 50 51,
⟨XD,XD,.store 3 (.t 56) (.t 55),[],(.lone [52,54,50])⟩])
def F33j(e:Nat)(xs:List aw)(k:Int)(k0:Nat)(vv:List aw)(q:Int):Option ((List aw)):=(HP xs k0 vv.length q).bind fun y1=>(cI xs k).bind fun y2=>XC ((xs.set k.toNat y1))
theorem F33j_ok{e:Nat}{xs:List aw}{k:Int}{k0:Nat}{vv:List aw}{q:Int}(hv:k0+vv.length≤xs.length){r:(List aw)}(h:F33j e xs k k0 vv q=XC r):sK XG 66 1 Ka [] (sM 66 1 (fun s=>s=⟨[(0,oc (ow 0 e r)),(1,oc (.fn 34 [])),(5,oI k),(6,oc (.own 0 e k0 (vv.length) XD)),(7,oI q)],[ba e r]⟩) (xQ 66 1 (fun _ _=>False) (fun _=>False)))
 ⟨[(0,oc (ow 0 e xs)),(1,oc (.fn 34 [])),(5,oI k),(6,oc (.own 0 e k0 (vv.length) XD)),(7,oI q)],[ba e xs]⟩:=by
 rw[F33j]at h
 unfold Ka
 refine ww ?_
 obtain⟨y1,hy1,h⟩:=bi h
 refine B5 (enc:=aR) (xs:=xs) rfl rfl rfl hy1 (ww ?_)
 refine cD.rd (aQ (js hy1)).2.1 (ww ?_)
 obtain⟨y2,hy2,h⟩:=bi h
 have qx:=q1 (bc (js hy1))
 refine lV (enc:=aR) (xs:=xs) rfl rfl rfl hy2 (ww ?_)
 refine eu.rd (y':=y1) (aQ hy2).2.1 (by simp[EE.down]) (by first|rfl|(simp only[b5];rfl)) (ww ?_)
 cases h
 have qx:=q3 (bc (js hy1)) (bc hy2) (hv)
 exact fI [XC 0] rfl
def J8:AC:=(.reg [Qa 36 7,
Qm 37 36 1,
Qa 7 37])
def F33o(e:Nat)(xs:List aw)(k:Int)(k0:Nat)(vv:List aw)(q:Int):Option (Unit):=XC (())
theorem F33o_ok{e:Nat}{xs:List aw}{k:Int}{k0:Nat}{vv:List aw}{q:Int}(hv:k0+vv.length≤xs.length){r:Unit}(h:F33o e xs k k0 vv q=XC r):sK XG 66 1 J8 [] (sM 66 1 (fun s=>s=⟨[(0,oc (ow 0 e xs)),(1,oc (.fn 34 [])),(5,oI k),(6,oc (.own 0 e k0 (vv.length) XD)),(7,oI ((XJ.wrap (q+1))))],[ba e xs]⟩) (xQ 66 1 (fun _ _=>False) (fun _=>False)))
 ⟨[(0,oc (ow 0 e xs)),(1,oc (.fn 34 [])),(5,oI k),(6,oc (.own 0 e k0 (vv.length) XD)),(7,oI q)],[ba e xs]⟩:=by
 rw[F33o]at h
 unfold J8
 refine ww ?_
 cases h
 have qx:=q1 (hv)
 exact fI [XC 0] rfl
def Jn:AC:=(.reg [Qa 5 4])
def F45d(e1:Nat)(b0:aj)(pods:List au)(ls:List au)(i:Int)(x:af):Option (Unit):=XC (())
theorem F45d_ok{e1 b0 pods ls i x r}(h:F45d e1 b0 pods ls i x=XC r):sK XG 73 2 Jn [] (sM 73 2 (fun s=>s=⟨[(0,Pz 0),(2,oc (ow 2 0 ls)),(5,Pz 3),(10,oc (ow 1 e1 pods)),(11,oI (pods.length:Int)),(12,oI i)],[xb (cj b0),ai e1 pods,ai 0 ls,xb (bj x (ow 4 0 x.an.ae.ad) (ow 5 0 x.aK) (ow 6 0 x.aq)),aE 0 x.an.ae.ad,aU 0 x.aK,bQ 0 x.aq]⟩) (xQ 73 2 (fun _ _=>False) (fun _=>False)))
 ⟨[(0,Pz 0),(2,oc (ow 2 0 ls)),(4,Pz 3),(10,oc (ow 1 e1 pods)),(11,oI (pods.length:Int)),(12,oI i)],[xb (cj b0),ai e1 pods,ai 0 ls,xb (bj x (ow 4 0 x.an.ae.ad) (ow 5 0 x.aK) (ow 6 0 x.aq)),aE 0 x.an.ae.ad,aU 0 x.aK,bQ 0 x.aq]⟩:=by
 rw[F45d]at h
 unfold Jn
 refine ww ?_
 cases h
 exact eM i7 rfl
def F88(x0:ag):Option (Unit):=XC (())
def a88:dG:=⟨6,[(.tmp 2)],
 (.seq (.reg [Qg 1 0,
Qf 2 XH])
 (.seq (.reg [Qb 3 1 1,
Qd 4 3,
Qr 5 4 1,
Qa 2 5])
 .ret))⟩
theorem F88_ok{x0 r}(h:F88 x0=XC r):aW XG 88 [.agg (dw x0)] [] (bJ [.c (dB (decide (x0.bH=1)))]) []:=by
 rw[F88]at h
 refine zc a88 (by kernel_rfl) rfl (ww ?_)
 cases h
 exact eF []
def Jk:AC:=(.reg [Qm 67 12 1,
Qa 12 67])
def F45g(e1:Nat)(b0:aj)(pods:List au)(ls:List au)(i:Int):Option (Unit):=XC (())
theorem F45g_ok{e1 b0 pods ls i r}(h:F45g e1 b0 pods ls i=XC r):sK XG 73 2 Jk [] (sM 73 2 (fun s=>s=⟨[(0,Pz 0),(2,oc (ow 2 0 ls)),(10,oc (ow 1 e1 pods)),(11,oI (pods.length:Int)),(12,oI ((XJ.wrap (i+1))))],[xb (cj b0),ai e1 pods,ai 0 ls]⟩) (xQ 73 2 (fun _ _=>False) (fun _=>False)))
 ⟨[(0,Pz 0),(2,oc (ow 2 0 ls)),(10,oc (ow 1 e1 pods)),(11,oI (pods.length:Int)),(12,oI i)],[xb (cj b0),ai e1 pods,ai 0 ls]⟩:=by
 rw[F45g]at h
 unfold Jk
 refine ww ?_
 cases h
 exact eM i3 rfl
def Js:AC:=(.reg [Qm 42 12 1,
Qa 12 42])
def F44g(e1:Nat)(b0:aj)(pods:List au)(n:Int)(i:Int):Option (Unit):=XC (())
theorem F44g_ok{e1 b0 pods n i r}(h:F44g e1 b0 pods n i=XC r):sK XG 43 2 Js [] (sM 43 2 (fun s=>s=⟨[(0,Pz 0),(11,oI n),(12,oI ((XJ.wrap (i+1))))],[xb (aA b0 (ow 1 e1 pods)),ai e1 pods]⟩) (xQ 43 2 (fun _ _=>False) (fun _=>False)))
 ⟨[(0,Pz 0),(11,oI n),(12,oI i)],[xb (aA b0 (ow 1 e1 pods)),ai e1 pods]⟩:=by
 rw[F44g]at h
 unfold Js
 refine ww ?_
 cases h
 exact eM i2 rfl
def Ju:AC:=(.reg [Qa 14 12,
Qa 2 14])
def F44b(e1:Nat)(b0:aj)(pods:List au)(n:Int)(i:Int):Option (Unit):=XC (())
theorem F44b_ok{e1 b0 pods n i r}(h:F44b e1 b0 pods n i=XC r):sK XG 43 2 Ju [] (sM 43 2 (fun s=>s=⟨[(0,Pz 0),(2,oI i),(11,oI n),(12,oI i)],[xb (aA b0 (ow 1 e1 pods)),ai e1 pods]⟩) (xQ 43 2 (fun _ _=>False) (fun _=>False)))
 ⟨[(0,Pz 0),(11,oI n),(12,oI i)],[xb (aA b0 (ow 1 e1 pods)),ai e1 pods]⟩:=by
 rw[F44b]at h
 unfold Ju
 refine ww ?_
 cases h
 exact eM i2 rfl
def Jt:AC:=(.reg [Qa 15 0,
Qb 16 0 15,
Qb 17 0 16,
Qb 18 25 17,
Qd 19 18,
Qa 20 2,
Qp 21 36 19 20,
Qa 3 21])
def F44c(e1:Nat)(b0:aj)(pods:List au)(n:Int)(i:Int):Option (Unit):=(cI pods i).bind fun y1=>XC (())
theorem F44c_ok{e1 b0 pods n i r}(h:F44c e1 b0 pods n i=XC r):sK XG 43 2 Jt [] (sM 43 2 (fun s=>s=⟨[(0,Pz 0),(3,oc (.pe 1 e1 i.toNat 0)),(11,oI n),(12,oI i)],[xb (aA b0 (ow 1 e1 pods)),ai e1 pods]⟩) (xQ 43 2 (fun _ _=>False) (fun _=>False)))
 ⟨[(0,Pz 0),(2,oI i),(11,oI n),(12,oI i)],[xb (aA b0 (ow 1 e1 pods)),ai e1 pods]⟩:=by
 rw[F44c]at h
 unfold Jt
 refine ww ?_
 obtain⟨y1,hy1,h⟩:=bi h
 refine tO (enc:=aS) (xs:=pods) rfl rfl rfl hy1 (ww ?_)
 cases h
 have qx:=q1 (bc hy1)
 exact fI i2 rfl
def JG:AC:=(.reg [Qa 14 0,
Qa 15 1,
sq 16 (.max (.t 15) (kI 0)),
Qb 17 0 14,
Qb 18 0 17,
Qb 19 27 18,
⟨XD,XD,.store 1 (.t 19) (.t 16),[],(.lone [14,17,18])⟩])
def F43a(e1:Nat)(b0:aj)(pods:List au)(us:Int):Option (Unit):=XC (())
theorem F43a_ok{e1 b0 pods us r}(h:F43a e1 b0 pods us=XC r):sK XG 118 2 JG [] (sM 118 2 (fun s=>s=⟨[(0,Pz 0)],[xb (BG b0 (ow 1 e1 pods) (dI ((if us<0 then 0 else us)))),ai e1 pods]⟩) (xQ 118 2 (fun _ _=>False) (fun _=>False)))
 ⟨[(0,Pz 0),(1,oI us)],[xb (aA b0 (ow 1 e1 pods)),ai e1 pods]⟩:=by
 rw[F43a]at h
 unfold JG
 refine ww ?_
 cases h
 exact eM i2 rfl
def JE:AC:=(.reg [sq 4 (.mv kN)])
def F43c(e1:Nat)(b0:aj)(pods:List au):Option (Unit):=XC (())
theorem F43c_ok{e1 b0 pods r}(h:F43c e1 b0 pods=XC r):sK XG 118 2 JE [] (sM 118 2 (fun s=>s=⟨[(0,Pz 0),(4,oc (dN))],[xb (aA b0 (ow 1 e1 pods)),ai e1 pods]⟩) (xQ 118 2 (fun _ _=>False) (fun _=>False)))
 ⟨[(0,Pz 0)],[xb (aA b0 (ow 1 e1 pods)),ai e1 pods]⟩:=by
 rw[F43c]at h
 unfold JE
 refine ww ?_
 cases h
 exact eM i2 rfl
def wF:AC:=(.reg [zl 5 (.box (.t 2)) [] []])
def F30075a(e1:Nat)(b0:aj)(pods:List au)(i:Int)(v:an):Option (Unit):=XC (())
theorem F30075a_ok{e1 b0 pods i v r}(h:F30075a e1 b0 pods i v=XC r):sK XG 128 2 wF [] (sM 128 2 (fun s=>s=⟨[(0,Pz 0),(1,oI i),(5,Pz 2)],[xb (aA b0 (ow 1 e1 pods)),ai e1 pods,xb (jD v)]⟩) (xQ 128 2 (fun _ _=>False) (fun _=>False)))
 ⟨[(0,Pz 0),(1,oI i),(2,.one (.agg (jD v)))],[xb (aA b0 (ow 1 e1 pods)),ai e1 pods]⟩:=by
 rw[F30075a]at h
 unfold wF
 refine ww ?_
 cases h
 exact eM i3 rfl
def J2:AC:=(.reg [Qc 6 30 1,
sq 7 (.build zQ [(0,30,(.t 6))]),
Qg 8 7,
Qa 3 8])
def F37b(a:ah):Option (Unit):=XC (())
theorem F37b_ok{a r}(h:F37b a=XC r):sK XG 60 0 J2 [] (sM 60 0 (fun s=>s=⟨[(1,Pz 0),(3,Pz 1)],[xb (dy a),xb (dy a)]⟩) (xQ 60 0 (fun _ _=>False) (fun _=>False)))
 ⟨[(1,Pz 0)],[xb (dy a)]⟩:=by
 rw[F37b]at h
 unfold J2
 refine ww ?_
 cases h
 exact eM i2 rfl
def DI:AC:=(.reg [Qa 29 5,
Qb 30 5 3,
Qc 31 32 30])
def F10as(e1:Nat)(b0:aj)(pods:List au)(v:aN):Option (Unit):=XC (())
theorem F10as_ok{e1 b0 pods v r}(h:F10as e1 b0 pods v=XC r):sK XG 86 0 DI [] (sM 86 0 (fun s=>s=⟨[(3,Pz 0),(4,Pz 1),(5,Pz 2),(29,Pz 2),(31,.one (.agg (jD v.an)))],[xb (aZ v),xb gx,xb (aA b0 (ow 3 0 pods)),ai 0 pods]⟩) (xQ 86 0 (fun _ _=>False) (fun _=>False)))
 ⟨[(3,Pz 0),(4,Pz 1),(5,Pz 2)],[xb (aZ v),xb gx,xb (aA b0 (ow 3 e1 pods)),ai e1 pods]⟩:=by
 rw[F10as]at h
 unfold DI
 refine ww ?_
 cases h
 exact eM i4 rfl
def Dy:AC:=(.reg [Qr 34 11 3,
Qa 33 34])
def F10t3(e1:Nat)(b0:aj)(pods:List au)(v:aN)(kd:Int):Option (Unit):=XC (())
theorem F10t3_ok{e1 b0 pods v kd r}(h:F10t3 e1 b0 pods v kd=XC r):sK XG 86 0 Dy [] (sM 86 0 (fun s=>s=⟨[(3,Pz 0),(4,Pz 1),(5,Pz 2),(11,oI kd),(33,oB (decide (kd=3)))],[xb (aZ v),xb gx,xb (aA b0 (ow 3 0 pods)),ai 0 pods]⟩) (xQ 86 0 (fun _ _=>False) (fun _=>False)))
 ⟨[(3,Pz 0),(4,Pz 1),(5,Pz 2),(11,oI kd)],[xb (aZ v),xb gx,xb (aA b0 (ow 3 e1 pods)),ai e1 pods]⟩:=by
 rw[F10t3]at h
 unfold Dy
 refine ww ?_
 cases h
 exact eM i4 rfl
theorem a40_ok:nv XG 40=XC (nf 36 544 [.v (.string ⟨#[]⟩),.v (.string ⟨#[]⟩),.v (.string ⟨#[]⟩),.v (.int .i64 0),.v (.int .i64 0),.v (.int .i64 0),.v (.int .i64 0),.v (.bool XH),.v (.int .i64 0),.sl [],.sl [],.sl [],.sl [],.v (.string ⟨#[]⟩),.v (.int .i64 0),.v (.int .i64 0),.v (.int .i64 0),.sl [],.sl [],.sl [],.sl [],.sl [],.sl [],.v (.int .i64 0),.v (.bool XH),.v (.int .i64 0),.v (.int .i64 0),.v (.int .i64 0),.sl [],.v (.int .i64 0),.v (.string ⟨#[]⟩),.v (.string ⟨#[]⟩),.sl [],.sl [],.v (.bool XH),.v (.int .i64 0)]):=by kernel_rfl
theorem F40_ok{x0 r:List au}{i j:Int}{e0:Nat}(h:oz x0 i j=XC r):aW XG 40 [.c (.own 0 e0 0 x0.length XD),aI i,aI j] [ai e0 x0] (bJ [.c (.own 0 (e0+1) 0 r.length XD)]) [ai (e0+1) r]:=BS a40_ok (fun _=>rfl) h
def Dv:AC:=(.reg [Qr 77 11 8,
Qa 76 77])
def F10t8(e1:Nat)(b0:aj)(pods:List au)(v:aN)(kd:Int):Option (Unit):=XC (())
theorem F10t8_ok{e1 b0 pods v kd r}(h:F10t8 e1 b0 pods v kd=XC r):sK XG 86 0 Dv [] (sM 86 0 (fun s=>s=⟨[(3,Pz 0),(4,Pz 1),(5,Pz 2),(11,oI kd),(76,oB (decide (kd=8)))],[xb (aZ v),xb gx,xb (aA b0 (ow 3 0 pods)),ai 0 pods]⟩) (xQ 86 0 (fun _ _=>False) (fun _=>False)))
 ⟨[(3,Pz 0),(4,Pz 1),(5,Pz 2),(11,oI kd)],[xb (aZ v),xb gx,xb (aA b0 (ow 3 e1 pods)),ai e1 pods]⟩:=by
 rw[F10t8]at h
 unfold Dv
 refine ww ?_
 cases h
 exact eM i4 rfl
def DG:AC:=(.reg [Qa 78 5])
def F10cr(e1:Nat)(b0:aj)(pods:List au)(v:aN):Option (Unit):=XC (())
theorem F10cr_ok{e1 b0 pods v r}(h:F10cr e1 b0 pods v=XC r):sK XG 86 0 DG [] (sM 86 0 (fun s=>s=⟨[(3,Pz 0),(4,Pz 1),(5,Pz 2),(78,Pz 2)],[xb (aZ v),xb gx,xb (aA b0 (ow 3 0 pods)),ai 0 pods]⟩) (xQ 86 0 (fun _ _=>False) (fun _=>False)))
 ⟨[(3,Pz 0),(4,Pz 1),(5,Pz 2)],[xb (aZ v),xb gx,xb (aA b0 (ow 3 e1 pods)),ai e1 pods]⟩:=by
 rw[F10cr]at h
 unfold DG
 refine ww ?_
 cases h
 exact eM i4 rfl
def E9:AC:=(.reg [Qa 82 5,
Qb 83 0 82,
Qb 84 0 83,
Qc 85 30 84,
⟨XD,XD,.store 30 (.t 4) (.t 85),[],(.lone [82,83,84])⟩])
def F10z(mm:Machine):Option (Unit):=XC (())
theorem F10z_ok{mm r}(h:F10z mm=XC r):sK XG 86 0 E9 [] (sM 86 0 (fun s=>s=⟨[(4,Pz 0)],[xb (BI mm)]⟩) (xQ 86 0 (fun _ _=>False) (fun _=>False)))
 ⟨[(4,Pz 0),(5,Pz 1)],[xb gx,xb (BI mm)]⟩:=by
 rw[F10z]at h
 unfold E9
 refine ww ?_
 cases h
 exact eM [XC 0] rfl
end Go.Proofs.YtojbebejhgbfeaaGreat
