/- Each Go function as a function over typed data, and its walk. -/
import Derived.Test.YtojbebejhgbfeaaGreatW0
open Option renaming some->XC,none->XD
open Go.Proofs.Tryz renaming prog->XF
open Bool renaming false->XG,true->XH
open Nat renaming reduceLeDiff->XI,reduceEqDiff->XJ,reduceBNe->XK,reduceAdd->XL,reduceLT->XM
open Sum renaming inr->XN,inl->XO
namespace Go.Proofs.YtojbebejhgbfeaaGreat
open Go Go.Fw Go.Shelf
set_option maxRecDepth 100000
set_option maxHeartbeats 4000000
set_option linter.unusedSimpArgs false
set_option linter.unusedVariables false
def Du:AC:=(.reg [Qg 2 0,
sq 4 (.mv kN)])
def F124a(x0:aP)(x1:Int):Option (Unit):=XC (())
theorem F124a_ok{x0 x1 r}(h:F124a x0 x1=XC r):sK XF 14 0 Du [] (sM 14 0 (fun s=>s=⟨[(1,oI x1),(2,Pz 0)],[xb (fG x0)]⟩) (xQ 14 0 (fun _ _=>False) (fun _=>False)))
 ⟨[(0,.one (.agg (fG x0))),(1,oI x1)],[]⟩:=by
 rw[F124a]at h
 unfold Du
 refine ww ?_
 cases h
 exact eM [XC 0] rfl
def F11(x0:an):Option (Bool):=(((if x0.ae.bC=2 then XC XH else XC (decide (x0.ae.bC=3)))).bind fun o1=>XC o1)
def a11:dG:=⟨13,[(.tmp 2)],
 (.seq (.reg [Qg 1 0,
Qf 2 XG])
 (.seq (.sem (.reg [Qb 3 23 1,
Qb 4 0 3,
Qd 5 4,
Qr 6 5 2,
Qa 7 6,
Qs 8 7 XG 23 1,
Qs 9 7 XG 0 8,
Qt 10 7 XG 9,
zg 11 7 XG (.bin .eql (.t 10) (kI 3)),
Qj 12 7 11,
Qa 2 12]))
 .ret))⟩
theorem F11_ok{x0 r}(h:F11 x0=XC r):aW XF 11 [.agg (jD x0)] [] (bJ [.c (dB r)]) []:=by
 rw[F11]at h
 refine zc a11 (by kernel_rfl) rfl (ww ?_)
 obtain⟨o1,ho,h⟩:=bi h
 refine bD (fun s=>s=⟨[(2,oB o1)],[]⟩) ?_ ?_
 ·have h:=ho
  refine ww ?_
  refine bR h (fun g2 h=>ww ?_) (fun g2 h=>ww ?_)
  ·cases h
   exact eM [] rfl
  cases h
  exact eM [] rfl
 rintro _ rfl
 refine ww ?_
 cases h
 exact eF []
def F116(x0:ByteArray)(x1:ByteArray)(x2:ByteArray):Option (ByteArray):=(ue x0 ((⟨#[47]⟩:ByteArray))).bind fun s1=>(ue s1 x1).bind fun s2=>(ue s2 ((⟨#[47]⟩:ByteArray))).bind fun s3=>(ue s3 x2).bind fun s4=>XC s4
def a116:dG:=⟨14,[(.tmp 6)],
 (.seq (.reg [sq 6 (.mv (kS ⟨#[]⟩))])
 (.seq (.reg [Qa 7 0,
sq 8 (.bin .add (.t 7) (kS ⟨#[47]⟩)),
Qa 9 1,
sq 10 (.bin .add (.t 8) (.t 9)),
sq 11 (.bin .add (.t 10) (kS ⟨#[47]⟩)),
Qa 12 2,
sq 13 (.bin .add (.t 11) (.t 12)),
Qa 6 13])
 .ret))⟩
theorem F116_ok{x0 x1 x2 r}(h:F116 x0 x1 x2=XC r):aW XF 116 [.c (dS x0),.c (dS x1),.c (dS x2)] [] (bJ [.c (dS r)]) []:=by
 rw[F116]at h
 refine zc a116 (by kernel_rfl) rfl (ww ?_)
 obtain⟨s1,hs1,h⟩:=bi h
 obtain⟨hle,es1⟩:=kg hs1
 refine⟨hle,?_⟩
 first|rw[←es1]|subst es1
 refine ww ?_
 obtain⟨s2,hs2,h⟩:=bi h
 obtain⟨hle,es2⟩:=kg hs2
 refine⟨hle,?_⟩
 first|rw[←es2]|subst es2
 refine ww ?_
 obtain⟨s3,hs3,h⟩:=bi h
 obtain⟨hle,es3⟩:=kg hs3
 refine⟨hle,?_⟩
 first|rw[←es3]|subst es3
 refine ww ?_
 obtain⟨s4,hs4,h⟩:=bi h
 obtain⟨hle,es4⟩:=kg hs4
 refine⟨hle,?_⟩
 first|rw[←es4]|subst es4
 refine ww ?_
 cases h
 exact eF []
def F10062(x0:au):Option (Bool):=(((if x0.an.ae.bC=2 then XC XH else XC (decide (x0.an.ae.bC=3)))).bind fun o1=>XC o1)
def a10062:dG:=⟨15,[(.tmp 2)],
 (.seq (.reg [Qg 1 0,
Qf 2 XG])
 (.seq (.sem (.reg [Qb 3 0 1,
Qb 4 23 3,
Qb 5 0 4,
Qd 6 5,
Qr 7 6 2,
Qa 8 7,
Qs 9 8 XG 0 1,
Qs 10 8 XG 23 9,
Qs 11 8 XG 0 10,
Qt 12 8 XG 11,
zg 13 8 XG (.bin .eql (.t 12) (kI 3)),
Qj 14 8 13,
Qa 2 14]))
 .ret))⟩
theorem F10062_ok{x0 r}(h:F10062 x0=XC r):aW XF 62 [.agg (cv x0)] [] (bJ [.c (dB r)]) []:=by
 rw[F10062]at h
 refine zc a10062 (by kernel_rfl) rfl (ww ?_)
 obtain⟨o1,ho,h⟩:=bi h
 refine bD (fun s=>s=⟨[(2,oB o1)],[]⟩) ?_ ?_
 ·have h:=ho
  refine ww ?_
  refine bR h (fun g2 h=>ww ?_) (fun g2 h=>ww ?_)
  ·cases h
   exact eM [] rfl
  cases h
  exact eM [] rfl
 rintro _ rfl
 refine ww ?_
 cases h
 exact eF []
def F133(x0:Int):Option (Unit):=XC (())
def a133:dG:=⟨6,[(.tmp 2)],
 (.seq (.reg [Qe 2 0])
 (.seq (.reg [Qa 3 0,
sq 4 (.max (.t 3) (kI 0)),
sq 5 (.min (.t 4) (kI 1000000000000000)),
Qa 2 5])
 .ret))⟩
theorem F133_ok{x0 r}(h:F133 x0=XC r):aW XF 133 [.c (dI x0)] [] (bJ [.c (dI ((if 1000000000000000<(if x0<0 then 0 else x0)then 1000000000000000 else(if x0<0 then 0 else x0))))]) []:=by
 rw[F133]at h
 refine zc a133 (by kernel_rfl) rfl (ww ?_)
 cases h
 exact eF []
def F222(x0:Int):Option (Unit):=XC (())
def a222:dG:=⟨6,[(.tmp 2)],
 (.seq (.reg [Qf 2 XG])
 (.seq (.reg [Qa 3 0,
Qa 4 0,
sq 5 (.bin .neq (.t 3) (.t 4)),
Qa 2 5])
 .ret))⟩
theorem F222_ok{x0 r}(h:F222 x0=XC r):aW XF 222 [.c (dI x0)] [] (bJ [.c (dB (decide (¬(True))))]) []:=by
 rw[F222]at h
 refine zc a222 (by kernel_rfl) rfl (ww ?_)
 cases h
 exact eF []
def F197_l1:List Int→Nat→Option ((Int) ⊕ (Unit))
 |[],o1_0=>XC (XN (()))
 |xo1::xs,o1_0=>(if¬(xo1=0)then(XC xo1).map XO else F197_l1 xs (o1_0+1))
def F197(x0:(List Int)):Option (Int):=(((ck (0≤x0.length∧x0.length≤4294967290)).bind fun u4=>F197_l1 x0 0:Option ((Int) ⊕ (Unit))).bind fun o1=>match o1 with|XO f=>XC f|XN po1=>XC 0)
def a197:dG:=⟨18,[(.tmp 2)],
 (.seq (.reg [Qe 2 0])
 (.seq (.reg [Qe 3 0])
 (.seq (.seq (.reg [Qa 6 0,
Qh 7 6,
Qe 8 0])
 (.sem (.block 0 (.loop (.seq (.reg [Qn 9 8 7])
 (.seq (.cond (.t 9)
 .skip
 (.exit 0))
 (.seq (.block 1 (.seq (.reg [Qp 10 1 6 8,
Qd 11 10,
Qa 5 11])
 (.seq (.reg [Qa 12 5,
Qa 13 3,
sq 14 (.bin .neq (.t 12) (.t 13))])
 (.cond (.t 14)
 (.seq (.reg [Qa 15 5,
Qa 2 15])
 .ret)
 .skip))))
 (.reg [Qm 16 8 1,
Qa 8 16]))))))))
 (.seq (.reg [Qa 17 3,
Qa 2 17])
 .ret))))⟩
theorem F197_ok{x0 r}(h:F197 x0=XC r):aW XF 197 [.c (dM (x0.map eI))] [] (bJ [.c (dI r)]) []:=by
 rw[F197]at h
 refine zc a197 (by kernel_rfl) rfl (ww ?_)
 obtain⟨o1,ho,h⟩:=bi h
 refine bD (fun s=>∃po1,o1=XN po1∧s=⟨[(3,oI 0)],[]⟩) ?_ ?_
 ·have h0o1:=h
  have h:=ho
  obtain⟨_,hk,h⟩:=bi h
  have hk:=cr hk
  refine ww ?_
  refine bL (fun j s=>∃(o1_0:Nat),(o1_0≤x0.length∧j=x0.length-o1_0)∧s=⟨[(3,oI 0),(6,oM (x0.map eI)),(7,oI (x0.length:Int)),(8,oI (o1_0:Int))],[]⟩∧F197_l1 (x0.drop o1_0) o1_0=XC o1) (x0.length-0) [] ⟨0,⟨hk.1,rfl⟩,rfl,h⟩ ?_
  rintro _ _ ⟨o1_0,⟨hi,rfl⟩,rfl,h⟩
  refine ww ?_
  refine dq (fun c2=>?_) (fun c2=>?_)
  ·obtain⟨xo1,hxo1,hd⟩:=cW (show(o1_0:Int)<(x0.length:Int)from c2)
   rw[hd,F197_l1]at h
   refine ww ?_
   refine bI (enc:=eI) (xs:=x0) rfl rfl hxo1 rfl (ww ?_)
   refine bG h (fun c3 h=>ww ?_) (fun c3 h=>ww ?_)
   ·obtain⟨fh0o1,hfh0o1,rfl⟩:=Option.map_eq_some_iff.1 h
    have h:=hfh0o1.trans h0o1
    cases h
    exact eF []
   rw[cL (by omega)]
   exact jo (x0.length-(o1_0+1)) [] ⟨o1_0+1,⟨by omega,rfl⟩,rfl,h⟩ (by omega)
  rw[cX (show¬((o1_0:Int)<(x0.length:Int))from c2),F197_l1]at h
  refine ww ?_
  cases h
  exact eM [] ⟨_,rfl,rfl⟩
 rintro _ ⟨po1,rfl,rfl⟩
 dsimp only at h
 refine ww ?_
 cases h
 exact eF []
theorem a72_ok:nv XF 72=XC (lQ 4 32):=by kernel_rfl
theorem F72_ok{x0 r:List aF}(h:gw x0=XC r):aW XF 72 [.c (dM (x0.map cu))] [] (bJ [.c (.own 0 1 0 r.length XD)]) [aU 1 r]:=sa a72_ok (fun _=>rfl) h
theorem a73_ok:nv XF 73=XC (lQ 2 16):=by kernel_rfl
theorem F73_ok{x0 r:List cp}(h:gw x0=XC r):aW XF 73 [.c (dM (x0.map fm))] [] (bJ [.c (.own 0 1 0 r.length XD)]) [bQ 1 r]:=sa a73_ok (fun _=>rfl) h
def Tryz.rG:Go.Shelf.Ren:=⟨fun|190=>64|125=>111|258=>110|128=>178|129=>179|302=>169|303=>170|304=>171|305=>172|306=>173|307=>174|308=>175|309=>176|310=>177|333=>211|329=>212|330=>213|334=>214|335=>215|336=>216|344=>223|n=>n,fun|31=>24|9=>9|3=>3|46=>172|0=>0|51=>230|53=>232|4=>4|183=>223|182=>222|131=>93|5=>5|218=>259|222=>263|228=>268|229=>269|n=>n,fun|n=>n⟩
theorem Tryz.Ih:Go.Proofs.Lays.n190 XF Tryz.rG:={
 mixed:=by kernel_rfl
 f125:=Tryz.func111.trans (congrArg XC (by kernel_rfl))
 f128:=Tryz.func178.trans (congrArg XC (by kernel_rfl))
 f129:=Tryz.func179.trans (congrArg XC (by kernel_rfl))
 f190:=Tryz.func64.trans (congrArg XC (by kernel_rfl))
 f258:=Tryz.func110.trans (congrArg XC (by kernel_rfl))
 f302:=Tryz.func169.trans (congrArg XC (by kernel_rfl))
 f303:=Tryz.func170.trans (congrArg XC (by kernel_rfl))
 f304:=Tryz.func171.trans (congrArg XC (by kernel_rfl))
 f305:=Tryz.func172.trans (congrArg XC (by kernel_rfl))
 f306:=Tryz.func173.trans (congrArg XC (by kernel_rfl))
 f307:=Tryz.func174.trans (congrArg XC (by kernel_rfl))
 f308:=Tryz.func175.trans (congrArg XC (by kernel_rfl))
 f309:=Tryz.func176.trans (congrArg XC (by kernel_rfl))
 f310:=Tryz.func177.trans (congrArg XC (by kernel_rfl))
 f329:=Tryz.func212.trans (congrArg XC (by kernel_rfl))
 f330:=Tryz.func213.trans (congrArg XC (by kernel_rfl))
 f333:=Tryz.func211.trans (congrArg XC (by kernel_rfl))
 f334:=Tryz.func214.trans (congrArg XC (by kernel_rfl))
 f335:=Tryz.func215.trans (congrArg XC (by kernel_rfl))
 f336:=Tryz.func216.trans (congrArg XC (by kernel_rfl))
 f344:=Tryz.func223.trans (congrArg XC (by kernel_rfl))
 t0:=Tryz.underlying0
 a0:=Tryz.isAgg0
 z0:=Tryz.sizeOf0
 v0:=Tryz.zeroValue0
 t3:=Tryz.underlying3
 a3:=Tryz.isAgg3
 z3:=Tryz.sizeOf3
 v3:=Tryz.zeroValue3
 t4:=Tryz.underlying4
 a4:=Tryz.isAgg4
 z4:=Tryz.sizeOf4
 v4:=Tryz.zeroValue4
 t5:=Tryz.underlying5
 a5:=Tryz.isAgg5
 z5:=Tryz.sizeOf5
 v5:=Tryz.zeroValue5
 t9:=Tryz.underlying9
 a9:=Tryz.isAgg9
 z9:=Tryz.sizeOf9
 v9:=Tryz.zeroValue9
 t31:=Tryz.underlying24
 a31:=Tryz.isAgg24
 z31:=Tryz.sizeOf24
 v31:=Tryz.zeroValue24
 t46:=Tryz.underlying172
 a46:=Tryz.isAgg172
 z46:=Tryz.sizeOf172
 v46:=Tryz.zeroValue172
 t51:=Tryz.underlying230
 a51:=Tryz.isAgg230
 z51:=Tryz.sizeOf230
 v51:=Tryz.zeroValue230
 t53:=Tryz.underlying232
 a53:=Tryz.isAgg232
 z53:=Tryz.sizeOf232
 v53:=Tryz.zeroValue232
 t131:=Tryz.underlying93
 a131:=Tryz.isAgg93
 z131:=Tryz.sizeOf93
 v131:=Tryz.zeroValue93
 t182:=Tryz.underlying222
 a182:=Tryz.isAgg222
 z182:=Tryz.sizeOf222
 v182:=Tryz.zeroValue222
 t183:=Tryz.underlying223
 a183:=Tryz.isAgg223
 z183:=Tryz.sizeOf223
 v183:=Tryz.zeroValue223
 t218:=Tryz.underlying259
 a218:=Tryz.isAgg259
 z218:=Tryz.sizeOf259
 v218:=Tryz.zeroValue259
 t222:=Tryz.underlying263
 a222:=Tryz.isAgg263
 z222:=Tryz.sizeOf263
 v222:=Tryz.zeroValue263
 t228:=Tryz.underlying268
 a228:=Tryz.isAgg268
 z228:=Tryz.sizeOf268
 v228:=Tryz.zeroValue268
 t229:=Tryz.underlying269
 a229:=Tryz.isAgg269
 z229:=Tryz.sizeOf269
 v229:=Tryz.zeroValue269}
def F35(x0:Int):Option (Unit):=XC (())
def a35:dG:=⟨6,[(.tmp 2)],
 (.seq (.reg [Qe 2 0])
 (.seq (.reg [Qa 3 0,
sq 4 (.max (.t 3) (kI 0)),
sq 5 (.min (.t 4) (kI 1000000000000000)),
Qa 2 5])
 .ret))⟩
theorem F35_ok{x0 r}(h:F35 x0=XC r):aW XF 35 [.c (dI x0)] [] (bJ [.c (dI ((if 1000000000000000<(if x0<0 then 0 else x0)then 1000000000000000 else(if x0<0 then 0 else x0))))]) []:=by
 rw[F35]at h
 refine zc a35 (by kernel_rfl) rfl (ww ?_)
 cases h
 exact eF []
def Ke:AC:=(.reg [Qa 29 0,
Qa 30 5])
def F33f(e:Nat)(xs:List aw)(k:Int):Option (Unit):=XC (())
theorem F33f_ok{e xs k r}(h:F33f e xs k=XC r):sK XF 66 1 Ke [] (sM 66 1 (fun s=>s=⟨[(0,oc (ow 0 e xs)),(1,oc (.fn 34 [])),(5,oI k),(29,oc (ow 0 e xs)),(30,oI k)],[ba e xs]⟩) (xQ 66 1 (fun _ _=>False) (fun _=>False)))
 ⟨[(0,oc (ow 0 e xs)),(1,oc (.fn 34 [])),(5,oI k)],[ba e xs]⟩:=by
 rw[F33f]at h
 unfold Ke
 refine ww ?_
 cases h
 exact eM [XC 0] rfl
def Kd:AC:=(.reg [Qe 7 1])
def F33g(e:Nat)(xs:List aw)(k:Int)(k0:Nat)(vv:List aw):Option (Unit):=XC (())
theorem F33g_ok{e:Nat}{xs:List aw}{k:Int}{k0:Nat}{vv:List aw}(hv:k0+vv.length≤xs.length){r:Unit}(h:F33g e xs k k0 vv=XC r):sK XF 66 1 Kd [] (sM 66 1 (fun s=>s=⟨[(0,oc (ow 0 e xs)),(1,oc (.fn 34 [])),(5,oI k),(6,oc (.own 0 e k0 (vv.length) XD)),(7,oI 1)],[ba e xs]⟩) (xQ 66 1 (fun _ _=>False) (fun _=>False)))
 ⟨[(0,oc (ow 0 e xs)),(1,oc (.fn 34 [])),(5,oI k),(6,oc (.own 0 e k0 (vv.length) XD))],[ba e xs]⟩:=by
 rw[F33g]at h
 unfold Kd
 refine ww ?_
 cases h
 have qx:=q1 (hv)
 exact fI [XC 0] rfl
def Kc:AC:=(.reg [Qa 32 7,
Qa 33 6,
Qh 34 33,
Qn 35 32 34])
def F33h(e:Nat)(xs:List aw)(k:Int)(k0:Nat)(vv:List aw)(q:Int):Option (Unit):=XC (())
theorem F33h_ok{e:Nat}{xs:List aw}{k:Int}{k0:Nat}{vv:List aw}{q:Int}(hv:k0+vv.length≤xs.length){r:Unit}(h:F33h e xs k k0 vv q=XC r):sK XF 66 1 Kc [] (sM 66 1 (fun s=>s=⟨[(0,oc (ow 0 e xs)),(1,oc (.fn 34 [])),(5,oI k),(6,oc (.own 0 e k0 (vv.length) XD)),(7,oI q),(35,oB (decide (q<(vv.length:Int))))],[ba e xs]⟩) (xQ 66 1 (fun _ _=>False) (fun _=>False)))
 ⟨[(0,oc (ow 0 e xs)),(1,oc (.fn 34 [])),(5,oI k),(6,oc (.own 0 e k0 (vv.length) XD)),(7,oI q)],[ba e xs]⟩:=by
 rw[F33h]at h
 unfold Kc
 refine ww ?_
 cases h
 have qx:=q1 (hv)
 exact fI [XC 0] rfl
def J7:AC:=(.reg [Qa 59 0,
Qa 60 5,
sq 61 (.slice 3 (.t 59) (XC (.t 60)) XD XD),
⟨XD,XD,.clear 3 [.v (.string ⟨#[]⟩),.v (.int .i64 0),.v (.int .i64 0)] (.t 61),[],(.lone [59])⟩])
def F33p(e:Nat)(xs:List aw)(k:Int):Option ((List aw)):=(qV xs k ((xs.length:Int))).bind fun s1=>XC ((xm xs k.toNat s1.length ((⟨(⟨#[]⟩:ByteArray),0,0⟩:aw))))
theorem F33p_ok{e xs k r}(h:F33p e xs k=XC r):sK XF 66 1 J7 [] (sM 66 1 (fun s=>s=⟨[(0,oc (ow 0 e r)),(5,oI k)],[ba e r]⟩) (xQ 66 1 (fun _ _=>False) (fun _=>False)))
 ⟨[(0,oc (ow 0 e xs)),(1,oc (.fn 34 [])),(5,oI k)],[ba e xs]⟩:=by
 rw[F33p]at h
 unfold J7
 refine ww ?_
 obtain⟨s1,hs1,h⟩:=bi h
 refine nD (enc:=aR) (xs:=xs) rfl rfl (by first|rfl|simp only[List.length_set]|exact(fW (fZ (by assumption))).symm) rfl (by first|rfl|simp only[gg,List.length_set]) hs1 (ww ?_)
 refine KZ (enc:=aR) (xs:=xs) (z:=(⟨(⟨#[]⟩:ByteArray),0,0⟩:aw)) rfl rfl rfl (Nat.le_trans (Nat.le_add_right _ _) (fZ hs1)) (ww ?_)
 cases h
 exact eM [XC 0] rfl (hB:=by simp only[ZZ.down,XJ,reduceCtorEq,XL,XI,XM,XK,EE.down,fW (fZ hs1)]) (hs:=by simp only[ZZ.down,XJ,reduceCtorEq,XL,XI,XM,XK,EE.down,fW (fZ hs1)])
def J6:AC:=(.reg [Qa 62 0,
Qa 63 5])
def F33q(e:Nat)(xs:List aw)(k:Int):Option (Unit):=XC (())
theorem F33q_ok{e xs k r}(h:F33q e xs k=XC r):sK XF 66 1 J6 [] (sM 66 1 (fun s=>s=⟨[(62,oc (ow 0 e xs)),(63,oI k)],[ba e xs]⟩) (xQ 66 1 (fun _ _=>False) (fun _=>False)))
 ⟨[(0,oc (ow 0 e xs)),(5,oI k)],[ba e xs]⟩:=by
 rw[F33q]at h
 unfold J6
 refine ww ?_
 cases h
 exact eM [XC 0] rfl
def J4:AC:=(.reg [Qa 65 0,
Qa 4 65])
def F33z(e:Nat)(xs:List aw):Option (Unit):=XC (())
theorem F33z_ok{e xs r}(h:F33z e xs=XC r):sK XF 66 1 J4 [] (sM 66 1 (fun s=>s=⟨[(4,oc (ow 0 e xs))],[ba e xs]⟩) (xQ 66 1 (fun _ _=>False) (fun _=>False)))
 ⟨[(0,oc (ow 0 e xs)),(1,oc (.fn 34 []))],[ba e xs]⟩:=by
 rw[F33z]at h
 unfold J4
 refine ww ?_
 cases h
 exact eM [XC 0] rfl
def Jq:AC:=(.reg [sq 2 (.mv kN)])
def F45a(e1:Nat)(b0:aj)(pods:List au):Option (Unit):=XC (())
theorem F45a_ok{e1 b0 pods r}(h:F45a e1 b0 pods=XC r):sK XF 73 2 Jq [] (sM 73 2 (fun s=>s=⟨[(0,Pz 0),(2,oc (dN))],[xb (aA b0 (ow 1 e1 pods)),ai e1 pods]⟩) (xQ 73 2 (fun _ _=>False) (fun _=>False)))
 ⟨[(0,Pz 0)],[xb (aA b0 (ow 1 e1 pods)),ai e1 pods]⟩:=by
 rw[F45a]at h
 unfold Jq
 refine ww ?_
 cases h
 exact eM i2 rfl
def Jl:AC:=(.reg [Qa 61 2,
Qa 62 5,
Qb 63 0 62,
Qc 64 36 63,
sq 65 (.bslice 36 [(.t 64)]),
sq 66 (.app 36 544 (.t 61) (.t 65)),
Qa 2 66])
def F45f(e1:Nat)(b0:aj)(pods:List au)(ls:List au)(i:Int)(y:au):Option ((List au)):=(jz ls ([y])).bind fun a1=>XC a1
theorem F45f_ok{e1 b0 pods ls i y r}(h:F45f e1 b0 pods ls i y=XC r):sK XF 73 2 Jl [] (sM 73 2 (fun s=>s=⟨[(0,Pz 0),(2,oc (ow 2 0 r)),(10,oc (ow 1 e1 pods)),(11,oI (pods.length:Int)),(12,oI i)],[xb (cj b0),ai e1 pods,ai 0 r]⟩) (xQ 73 2 (fun _ _=>False) (fun _=>False)))
 ⟨[(0,Pz 0),(2,oc (ow 2 0 ls)),(5,Pz 3),(10,oc (ow 1 e1 pods)),(11,oI (pods.length:Int)),(12,oI i)],[xb (cj b0),ai e1 pods,ai 0 ls,xb (cv y)]⟩:=by
 rw[F45f]at h
 unfold Jl
 refine ww ?_
 refine tB (enc:=aS) (ys:=[y]) rfl rfl (ww ?_)
 obtain⟨a1,ha1,h⟩:=bi h
 refine tA (enc:=aS) (xs:=ls) rfl rfl rfl ha1 (ww ?_)
 cases h
 exact eM i3 rfl
def Jv:AC:=(.reg [Qa 6 0,
Qb 7 0 6,
Qb 8 0 7,
Qb 9 25 8,
Qd 10 9,
Qh 11 10,
Qe 12 0])
def F44a(e1:Nat)(b0:aj)(pods:List au):Option (Unit):=XC (())
theorem F44a_ok{e1 b0 pods r}(h:F44a e1 b0 pods=XC r):sK XF 43 2 Jv [] (sM 43 2 (fun s=>s=⟨[(0,Pz 0),(11,oI (pods.length:Int)),(12,oI 0)],[xb (aA b0 (ow 1 e1 pods)),ai e1 pods]⟩) (xQ 43 2 (fun _ _=>False) (fun _=>False)))
 ⟨[(0,Pz 0)],[xb (aA b0 (ow 1 e1 pods)),ai e1 pods]⟩:=by
 rw[F44a]at h
 unfold Jv
 refine ww ?_
 cases h
 exact eM i2 rfl
def JF:AC:=(.seq (.regd [Qa 20 0,
sd 21 (.fieldA 0 (.t 20)) [0],
sd 22 (.fieldA 0 (.t 21)) [0,1],
sd 23 (.fieldA 27 (.t 22)) [0,1,2],
sd 24 (.load XD (.t 23)) [0,1,2,3],
Qa 25 0,
sd 26 (.fieldA 0 (.t 25)) [5],
sd 27 (.fieldA 0 (.t 26)) [5,6],
sd 28 (.fieldA 0 (.t 27)) [5,6,7],
sd 29 (.fieldA 13 (.t 28)) [5,6,7,8],
sd 30 (.fieldA 1 (.t 29)) [5,6,7,8,9],
sd 31 (.load XD (.t 30)) [5,6,7,8,9,10],
sd 32 (.bin .leq (.t 24) (.t 31)) [0,1,2,3,4,5,6,7,8,9,10,11]])
 (.cond (.t 32)
 .ret
 .skip))
def F43b(e1:Nat)(b0:aj)(pods:List au):Option ((Unit) ⊕ (Unit)):=(if b0.ah.bW≤b0.ah.Node.aJ.aG then XC (XO (()))else XC (XN (())))
theorem F43b_ok{e1 b0 pods r}(h:F43b e1 b0 pods=XC r):sK XF 118 2 JF [] (sM 118 2 (fun s=>∃o1,r=XN (o1)∧s=⟨[(0,Pz 0)],[xb (aA b0 (ow 1 e1 pods)),ai e1 pods]⟩) (xQ 118 2 (fun _ _=>False) (fun s=>∃o0,r=XO o0∧s=⟨[(0,Pz 0)],[xb (aA b0 (ow 1 e1 pods)),ai e1 pods]⟩)))
 ⟨[(0,Pz 0)],[xb (aA b0 (ow 1 e1 pods)),ai e1 pods]⟩:=by
 rw[F43b]at h
 unfold JF
 refine ww ?_
 refine bG h (fun c1 h=>ww ?_) (fun c1 h=>?_)
 ·cases h
  exact eR i2 ⟨_,rfl,rfl⟩
 ·refine ww ?_
  cases h
  exact eM i2 ⟨_,rfl,rfl⟩
def Jz:AC:=(.reg [Qn 77 76 75])
def F43h(e1:Nat)(b0:aj)(pods:List au)(ks:List ByteArray)(i:Int):Option (Unit):=XC (())
theorem F43h_ok{e1 b0 pods ks i r}(h:F43h e1 b0 pods ks i=XC r):sK XF 118 2 Jz [] (sM 118 2 (fun s=>s=⟨[(0,Pz 0),(74,oc (ow 2 0 ks)),(75,oI (ks.length:Int)),(76,oI i),(77,oB (decide (i<(ks.length:Int))))],[xb (aA b0 (ow 1 e1 pods)),ai e1 pods,iS 0 ks]⟩) (xQ 118 2 (fun _ _=>False) (fun _=>False)))
 ⟨[(0,Pz 0),(74,oc (ow 2 0 ks)),(75,oI (ks.length:Int)),(76,oI i)],[xb (aA b0 (ow 1 e1 pods)),ai e1 pods,iS 0 ks]⟩:=by
 rw[F43h]at h
 unfold Jz
 refine ww ?_
 cases h
 exact eM i3 rfl
def Jx:AC:=(.reg [Qa 86 0,
Qb 87 0 86,
Qb 88 0 87,
Qb 89 25 88,
Qd 90 89,
Qa 91 10,
Qp 92 36 90 91,
Qa 12 92])
def F43j(e1:Nat)(b0:aj)(pods:List au)(ks:List ByteArray)(i:Int)(k:Int):Option (Unit):=(cI pods k).bind fun y1=>XC (())
theorem F43j_ok{e1 b0 pods ks i k r}(h:F43j e1 b0 pods ks i k=XC r):sK XF 118 2 Jx [] (sM 118 2 (fun s=>s=⟨[(0,Pz 0),(12,oc (.pe 1 e1 k.toNat 0)),(74,oc (ow 2 0 ks)),(75,oI (ks.length:Int)),(76,oI i)],[xb (aA b0 (ow 1 e1 pods)),ai e1 pods,iS 0 ks]⟩) (xQ 118 2 (fun _ _=>False) (fun _=>False)))
 ⟨[(0,Pz 0),(10,oI k),(74,oc (ow 2 0 ks)),(75,oI (ks.length:Int)),(76,oI i)],[xb (aA b0 (ow 1 e1 pods)),ai e1 pods,iS 0 ks]⟩:=by
 rw[F43j]at h
 unfold Jx
 refine ww ?_
 obtain⟨y1,hy1,h⟩:=bi h
 refine tO (enc:=aS) (xs:=pods) rfl rfl rfl hy1 (ww ?_)
 cases h
 have qx:=q1 (bc hy1)
 exact fI i3 rfl
noncomputable def OZ:Func:=(Tryz.prog.funcs[184]?).getD default
theorem Ix:Tryz.prog.funcs[184]? =XC OZ:=by kernel_rfl
theorem OR(e0 e1 o0 o1 l0 l1:Nat)(c0 c1:Option Nat)(r0 r1:List (List D)):
 aW XF 184 [.c (.own 0 e0 o0 l0 c0),.c (.own 1 e1 o1 l1 c1)] [XC (.arr e0 36 r0),XC (.arr e1 36 r1)] (.one (aB XG)) [XC (.arr e0 36 r0),XC (.arr e1 36 r1)]:=
 xL (tS:=37) (tT:=4) (e:=61) (ps:= #[37,37]) (rs:= #[4]) Ix (by kernel_rfl) (by kernel_rfl) (by kernel_rfl) (by kernel_rfl) rfl rfl (by kernel_rfl) (by kernel_rfl) e0 e1 o0 o1 l0 l1 c0 c1 r0 r1
def JR:AC:=(.reg [zl 3 (.box (.t 1)) [] []])
def F38a(e1:Nat)(b0:aj)(pods:List au)(v:an):Option (Unit):=XC (())
theorem F38a_ok{e1 b0 pods v r}(h:F38a e1 b0 pods v=XC r):sK XF 93 2 JR [] (sM 93 2 (fun s=>s=⟨[(0,Pz 0),(3,Pz 2)],[xb (aA b0 (ow 1 e1 pods)),ai e1 pods,xb (jD v)]⟩) (xQ 93 2 (fun _ _=>False) (fun _=>False)))
 ⟨[(0,Pz 0),(1,.one (.agg (jD v)))],[xb (aA b0 (ow 1 e1 pods)),ai e1 pods]⟩:=by
 rw[F38a]at h
 unfold JR
 refine ww ?_
 cases h
 exact eM i3 rfl
def JP:AC:=(.reg [Qa 15 5,
Qq 16 15])
def F38c(e1:Nat)(b0:aj)(pods:List au)(v:an)(k:Int)(ok:Bool):Option (Unit):=XC (())
theorem F38c_ok{e1 b0 pods v k ok r}(h:F38c e1 b0 pods v k ok=XC r):sK XF 93 2 JP [] (sM 93 2 (fun s=>s=⟨[(0,Pz 0),(3,Pz 2),(4,oI k),(16,oB (nb ok))],[xb (aA b0 (ow 1 e1 pods)),ai e1 pods,xb (jD v)]⟩) (xQ 93 2 (fun _ _=>False) (fun _=>False)))
 ⟨[(0,Pz 0),(3,Pz 2),(4,oI k),(5,oB ok)],[xb (aA b0 (ow 1 e1 pods)),ai e1 pods,xb (jD v)]⟩:=by
 rw[F38c]at h
 unfold JP
 refine ww ?_
 cases h
 exact eM i3 rfl
def JO:AC:=(.sem (.regd [Qb 17 13 3,
sd 18 (.fieldA 0 (.t 17)) [0],
sd 19 (.load XD (.t 18)) [0,1],
Qa 20 0,
sd 21 (.fieldA 0 (.t 20)) [3],
sd 22 (.fieldA 0 (.t 21)) [3,4],
sd 23 (.fieldA 0 (.t 22)) [3,4,5],
sd 24 (.fieldA 0 (.t 23)) [3,4,5,6],
sd 25 (.fieldA 2 (.t 24)) [3,4,5,6,7],
sd 26 (.load XD (.t 25)) [3,4,5,6,7,8],
sd 27 (.bin .eql (.t 19) (.t 26)) [0,1,2,3,4,5,6,7,8,9],
sd 28 (.mv (.t 27)) [0,1,2,3,4,5,6,7,8,9,10],
⟨(XC 29),(XC (28,XH)),.fieldA 0 (.t 3),[0,1,2,3,4,5,6,7,8,9,10,11],(.new [])⟩,
⟨(XC 30),(XC (28,XH)),.fieldA 7 (.t 29),[0,1,2,3,4,5,6,7,8,9,10,11,12],(.new [])⟩,
⟨(XC 31),(XC (28,XH)),.load XD (.t 30),[0,1,2,3,4,5,6,7,8,9,10,11,12,13],(.new [])⟩,
⟨(XC 32),(XC (28,XH)),.not (.t 31),[0,1,2,3,4,5,6,7,8,9,10,11,12,13,14],(.new [])⟩,
zl 33 (.pick (.t 28) (.t 32) (kB XG)) [0,1,2,3,4,5,6,7,8,9,10,11,12,13,14,15] [],
sd 34 (.mv (.t 33)) [0,1,2,3,4,5,6,7,8,9,10,11,12,13,14,15,16],
⟨(XC 35),(XC (34,XH)),.mv (.t 0),[0,1,2,3,4,5,6,7,8,9,10,11,12,13,14,15,16,17],(.new [])⟩,
⟨(XC 36),(XC (34,XH)),.fieldA 0 (.t 35),[0,1,2,3,4,5,6,7,8,9,10,11,12,13,14,15,16,17,18],(.new [])⟩,
⟨(XC 37),(XC (34,XH)),.fieldA 0 (.t 36),[0,1,2,3,4,5,6,7,8,9,10,11,12,13,14,15,16,17,18,19],(.new [])⟩,
⟨(XC 38),(XC (34,XH)),.fieldA 25 (.t 37),[0,1,2,3,4,5,6,7,8,9,10,11,12,13,14,15,16,17,18,19,20],(.new [])⟩,
⟨(XC 39),(XC (34,XH)),.load XD (.t 38),[0,1,2,3,4,5,6,7,8,9,10,11,12,13,14,15,16,17,18,19,20,21],(.new [])⟩,
⟨(XC 40),(XC (34,XH)),.len (.t 39),[0,1,2,3,4,5,6,7,8,9,10,11,12,13,14,15,16,17,18,19,20,21,22],(.new [])⟩,
⟨(XC 41),(XC (34,XH)),.bin .lss (.t 40) (kI 64),[0,1,2,3,4,5,6,7,8,9,10,11,12,13,14,15,16,17,18,19,20,21,22,23],(.new [])⟩,
zl 42 (.pick (.t 34) (.t 41) (kB XG)) [0,1,2,3,4,5,6,7,8,9,10,11,12,13,14,15,16,17,18,19,20,21,22,23,24] []]))
def F38d(e1:Nat)(b0:aj)(pods:List au)(v:an)(k:Int):Option (Bool):=(((if v.Spec.Node=b0.ah.Node.ak.aV then(if(nb v.ak.bP)=XH then XC (decide ((pods.length:Int)<64))else XC XG)else XC XG)).bind fun o1=>XC o1)
theorem F38d_ok{e1 b0 pods v k r}(h:F38d e1 b0 pods v k=XC r):sK XF 93 2 JO [] (sM 93 2 (fun s=>s=⟨[(0,Pz 0),(3,Pz 2),(4,oI k),(42,oB r)],[xb (aA b0 (ow 1 e1 pods)),ai e1 pods,xb (jD v)]⟩) (xQ 93 2 (fun _ _=>False) (fun _=>False)))
 ⟨[(0,Pz 0),(3,Pz 2),(4,oI k)],[xb (aA b0 (ow 1 e1 pods)),ai e1 pods,xb (jD v)]⟩:=by
 rw[F38d]at h
 unfold JO
 refine ww ?_
 obtain⟨o1,ho,h⟩:=bi h
 refine bD (fun s=>s=⟨[(0,Pz 0),(3,Pz 2),(4,oI k),(42,oB o1)],[xb (aA b0 (ow 1 e1 pods)),ai e1 pods,xb (jD v)]⟩) ?_ ?_
 ·have h:=ho
  refine ww ?_
  refine ib h (fun g2 h=>ww ?_) (fun g2 h=>?_)
  ·refine iH h (fun g3 h=>ww ?_) (fun g3 h=>?_)
   ·cases h
    exact eM i3 rfl
   ·refine ww ?_
    cases h
    exact eM i3 rfl
  ·refine ww ?_
   cases h
   exact eM i3 rfl
 ·rintro _ rfl
  refine ww ?_
  cases h
  exact eM i3 rfl
def JN:AC:=(.reg [Qa 43 0,
Qa 44 4,
Qc 45 32 3])
def F38e(e1:Nat)(b0:aj)(pods:List au)(v:an)(k:Int):Option (Unit):=XC (())
theorem F38e_ok{e1 b0 pods v k r}(h:F38e e1 b0 pods v k=XC r):sK XF 93 2 JN [] (sM 93 2 (fun s=>s=⟨[(43,Pz 0),(44,oI k),(45,.one (.agg (jD v)))],[xb (aA b0 (ow 1 e1 pods)),ai e1 pods]⟩) (xQ 93 2 (fun _ _=>False) (fun _=>False)))
 ⟨[(0,Pz 0),(3,Pz 2),(4,oI k)],[xb (aA b0 (ow 1 e1 pods)),ai e1 pods,xb (jD v)]⟩:=by
 rw[F38e]at h
 unfold JN
 refine ww ?_
 cases h
 exact eM i2 rfl
def J3:AC:=(.reg [Qg 1 0,
sq 2 (.mv (.k (.c (.d (.v (.pointer XD))))))])
def F37a(a:ah):Option (Unit):=XC (())
theorem F37a_ok{a r}(h:F37a a=XC r):sK XF 60 0 J3 [] (sM 60 0 (fun s=>s=⟨[(1,Pz 0)],[xb (dy a)]⟩) (xQ 60 0 (fun _ _=>False) (fun _=>False)))
 ⟨[(0,.one (.agg (dy a)))],[]⟩:=by
 rw[F37a]at h
 unfold J3
 refine ww ?_
 cases h
 exact eM [XC 0] rfl
def Kl:AC:=(.reg [Qc 8 30 2])
def F10b(a:ah)(v:aN):Option (Unit):=XC (())
theorem F10b_ok{a v r}(h:F10b a v=XC r):sK XF 86 0 Kl [] (sM 86 0 (fun s=>s=⟨[(3,Pz 0),(4,Pz 1),(8,.one (.agg (dy a)))],[xb (aZ v),xb gx]⟩) (xQ 86 0 (fun _ _=>False) (fun _=>False)))
 ⟨[(2,Pz 0),(3,Pz 1),(4,Pz 2)],[xb (dy a),xb (aZ v),xb gx]⟩:=by
 rw[F10b]at h
 unfold Kl
 refine ww ?_
 cases h
 exact eM [XC 1,XC 2] rfl
def DA:AC:=(.reg [Qr 13 11 1,
Qa 12 13])
def F10t1(e1:Nat)(b0:aj)(pods:List au)(v:aN)(kd:Int):Option (Unit):=XC (())
theorem F10t1_ok{e1 b0 pods v kd r}(h:F10t1 e1 b0 pods v kd=XC r):sK XF 86 0 DA [] (sM 86 0 (fun s=>s=⟨[(3,Pz 0),(4,Pz 1),(5,Pz 2),(11,oI kd),(12,oB (decide (kd=1)))],[xb (aZ v),xb gx,xb (aA b0 (ow 3 0 pods)),ai 0 pods]⟩) (xQ 86 0 (fun _ _=>False) (fun _=>False)))
 ⟨[(3,Pz 0),(4,Pz 1),(5,Pz 2),(11,oI kd)],[xb (aZ v),xb gx,xb (aA b0 (ow 3 e1 pods)),ai e1 pods]⟩:=by
 rw[F10t1]at h
 unfold DA
 refine ww ?_
 cases h
 exact eM i4 rfl
def DB:AC:=(.reg [Qa 42 7])
def F10rg(e1:Nat)(b0:aj)(pods:List au)(v:aN)(k:Int)(ok:Bool):Option (Unit):=XC (())
theorem F10rg_ok{e1 b0 pods v k ok r}(h:F10rg e1 b0 pods v k ok=XC r):sK XF 86 0 DB [] (sM 86 0 (fun s=>s=⟨[(3,Pz 0),(4,Pz 1),(5,Pz 2),(6,oI k),(42,oB ok)],[xb (aZ v),xb gx,xb (aA b0 (ow 3 0 pods)),ai 0 pods]⟩) (xQ 86 0 (fun _ _=>False) (fun _=>False)))
 ⟨[(3,Pz 0),(4,Pz 1),(5,Pz 2),(6,oI k),(7,oB ok)],[xb (aZ v),xb gx,xb (aA b0 (ow 3 e1 pods)),ai e1 pods]⟩:=by
 rw[F10rg]at h
 unfold DB
 refine ww ?_
 cases h
 exact eM i4 rfl
def Dx:AC:=(.reg [Qr 63 11 6,
Qa 62 63])
def F10t6(e1:Nat)(b0:aj)(pods:List au)(v:aN)(kd:Int):Option (Unit):=XC (())
theorem F10t6_ok{e1 b0 pods v kd r}(h:F10t6 e1 b0 pods v kd=XC r):sK XF 86 0 Dx [] (sM 86 0 (fun s=>s=⟨[(3,Pz 0),(4,Pz 1),(5,Pz 2),(11,oI kd),(62,oB (decide (kd=6)))],[xb (aZ v),xb gx,xb (aA b0 (ow 3 0 pods)),ai 0 pods]⟩) (xQ 86 0 (fun _ _=>False) (fun _=>False)))
 ⟨[(3,Pz 0),(4,Pz 1),(5,Pz 2),(11,oI kd)],[xb (aZ v),xb gx,xb (aA b0 (ow 3 e1 pods)),ai e1 pods]⟩:=by
 rw[F10t6]at h
 unfold Dx
 refine ww ?_
 cases h
 exact eM i4 rfl
def DD:AC:=(.reg [Qa 72 5,
Qb 73 1 3,
Qd 74 73])
def F10re(e1:Nat)(b0:aj)(pods:List au)(v:aN):Option (Unit):=XC (())
theorem F10re_ok{e1 b0 pods v r}(h:F10re e1 b0 pods v=XC r):sK XF 86 0 DD [] (sM 86 0 (fun s=>s=⟨[(3,Pz 0),(4,Pz 1),(5,Pz 2),(72,Pz 2),(74,oI v.N)],[xb (aZ v),xb gx,xb (aA b0 (ow 3 0 pods)),ai 0 pods]⟩) (xQ 86 0 (fun _ _=>False) (fun _=>False)))
 ⟨[(3,Pz 0),(4,Pz 1),(5,Pz 2)],[xb (aZ v),xb gx,xb (aA b0 (ow 3 e1 pods)),ai e1 pods]⟩:=by
 rw[F10re]at h
 unfold DD
 refine ww ?_
 cases h
 exact eM i4 rfl
def zF:AC:=(.reg [Qa 80 5])
def F10se(e1:Nat)(b0:aj)(pods:List au)(v:aN):Option (Unit):=XC (())
theorem F10se_ok{e1 b0 pods v r}(h:F10se e1 b0 pods v=XC r):sK XF 86 0 zF [] (sM 86 0 (fun s=>s=⟨[(3,Pz 0),(4,Pz 1),(5,Pz 2),(80,Pz 2)],[xb (aZ v),xb gx,xb (aA b0 (ow 3 0 pods)),ai 0 pods]⟩) (xQ 86 0 (fun _ _=>False) (fun _=>False)))
 ⟨[(3,Pz 0),(4,Pz 1),(5,Pz 2)],[xb (aZ v),xb gx,xb (aA b0 (ow 3 e1 pods)),ai e1 pods]⟩:=by
 rw[F10se]at h
 unfold zF
 refine ww ?_
 cases h
 exact eM i4 rfl
end Go.Proofs.YtojbebejhgbfeaaGreat
