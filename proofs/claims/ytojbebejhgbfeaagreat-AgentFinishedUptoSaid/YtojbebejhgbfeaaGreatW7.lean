/- Each Go function as a function over typed data, and its walk. -/
import Derived.Test.YtojbebejhgbfeaaGreatW0
import Derived.Test.YtojbebejhgbfeaaGreatW1
import Derived.Test.YtojbebejhgbfeaaGreatW2
import Derived.Test.YtojbebejhgbfeaaGreatW3
import Derived.Test.YtojbebejhgbfeaaGreatW4
open Option renaming some->XC,none->XD,map_eq_some_iff->XF
open Bool renaming false->XG,true->XH
open Go.Proofs.Tryz renaming prog->XI
open Sum renaming inr->XJ,inl->XK
namespace Go.Proofs.YtojbebejhgbfeaaGreat
open Go Go.Fw Go.Shelf
set_option maxRecDepth 100000
set_option maxHeartbeats 4000000
set_option linter.unusedSimpArgs false
set_option linter.unusedVariables false
def F124(x0:aP)(x1:Int):Option (List Probe):=if x1=0 then XC x0.jl else if x1=1 then XC x0.bd else if x1=2 then XC x0.dt else XD
def a124:dG:=⟨14,[.tmp 4],.seq Du (.seq (.reg (opsOf Dt++[sq 13 (.opq 15 (.t 11)),Qa 4 13])) .ret)⟩
theorem a124_ok:nv XI 124=XC a124.er:=by kernel_rfl
theorem F124_ok{x0 x1 r}(h:F124 x0 x1=XC r):aW XI 124 [.agg (fG x0),.c (dI x1)] [] (bJ [.c (dM (r.map el))]) []:=by
 refine jI.I0 (iJ a124_ok (by simp[a124]) fun B=>?_)
 refine VE.dV (F124a_ok (x0:=x0) (x1:=x1) rfl) (fun s' hs=>?_) xN gr
 subst hs
 refine VE.seq (VE.ws (SE.append (SE.pc (F124b_ok (x0:=x0) (x1:=x1) rfl) fun s' hs=>?_)))
 subst hs
 have key:[C.d (.sl (x0.jl.map el)),dM (x0.bd.map el),dM (x0.dt.map el)][x1.toNat]? =XC (dM (r.map el))∧0≤x1∧x1<3:=by
  unfold F124 at h
  split at h
  ·rename_i h0;subst h0;cases h;exact⟨rfl,by decide,by decide⟩
  ·split at h
   ·rename_i h0;subst h0;cases h;exact⟨rfl,by decide,by decide⟩
   ·split at h
    ·rename_i h0;subst h0;cases h;exact⟨rfl,by decide,by decide⟩
    ·cases h
 obtain⟨k1,k2,k3⟩:=key
 refine Te.refl (SE.cons ?_)
 refine SE.QB (t:=12) (d:=13) rfl rfl rfl rfl rfl k2 k3 k1 ?_
 refine SE.mv (d:=4) rfl rfl rfl rfl ?_
 refine VE.fin (eV (sl:=[(4,oM (r.map el))]) (H':=[]) []) ?_
 exact⟨rfl,rfl,fun i e h=>by simp at h⟩
def F190(x0:Int)(x1:Int):Option (Int):=(F189 x0 0 1000000000000).bind fun t1=>XC ((if 1000000000000<(IntKind.i64.wrap (((if(1000000000000:Int)<(if x0<(0:Int)then(0:Int)else x0)then(1000000000000:Int)else(if x0<(0:Int)then(0:Int)else x0)))+x1))then 1000000000000 else(IntKind.i64.wrap (((if(1000000000000:Int)<(if x0<(0:Int)then(0:Int)else x0)then(1000000000000:Int)else(if x0<(0:Int)then(0:Int)else x0)))+x1))))
def a190:dG:=⟨10,[(.tmp 4)],
 (.seq (.reg [Qe 4 0])
 (.seq (.reg [Qa 5 0,
sq 6 (.call 189 [(.t 5),(kI 0),(kI 1000000000000)]),
Qa 7 1,
sq 8 (.bin .add (.t 6) (.t 7)),
sq 9 (.min (.t 8) (kI 1000000000000)),
Qa 4 9])
 .ret))⟩
theorem F190_ok{x0 x1 r}(h:F190 x0 x1=XC r):aW XI 190 [.c (dI x0),.c (dI x1)] [] (bJ [.c (dI r)]) []:=by
 rw[F190]at h
 refine zc a190 (by kernel_rfl) rfl (ww ?_)
 obtain⟨t1,ht1,h⟩:=bi h
 refine cN [] (F189_ok ht1) trivial (ww ?_)
 cases h
 exact eF []
def F191(x0:(List ByteArray))(x1:ByteArray):Option (Bool):=(F219 x0 x1).bind fun t1=>XC (decide (0≤t1))
def a191:dG:=⟨9,[(.tmp 4)],
 (.seq (.reg [Qf 4 XG])
 (.seq (.reg [Qa 5 0,
Qa 6 1,
Ql 7 219 5 6,
sq 8 (.bin .geq (.t 7) (kI 0)),
Qa 4 8])
 .ret))⟩
theorem F191_ok{x0 x1 r}(h:F191 x0 x1=XC r):aW XI 191 [.c (dM (x0.map eS)),.c (dS x1)] [] (bJ [.c (dB r)]) []:=by
 rw[F191]at h
 refine zc a191 (by kernel_rfl) rfl (ww ?_)
 obtain⟨t1,ht1,h⟩:=bi h
 refine cN [] (F219_ok ht1) trivial (ww ?_)
 cases h
 exact eF []
def F121_l1(b0:ByteArray):List aP→Nat→Option ((Int) ⊕ (Unit))
 |[],o1_0=>XC (XJ (()))
 |xo1::xs,o1_0=>(F122 xo1 b0).bind fun t3=>(if xo1.aV=b0 then(XC ((o1_0:Int))).map XK else F121_l1 b0 xs (o1_0+1))
def F121(x0:(List aP))(b0:ByteArray):Option (Int):=(((ck (0≤x0.length∧x0.length≤4294967290)).bind fun u5=>F121_l1 b0 x0 0:Option ((Int) ⊕ (Unit))).bind fun o1=>match o1 with|XK f=>XC f|XJ po1=>XC ((-1)))
def a121:dG:=⟨19,[(.tmp 4)],
 (.seq (.reg [Qe 4 0])
 (.seq (.seq (.reg [Qa 6 0,
Qh 7 6,
Qe 8 0])
 (.sem (.block 0 (.loop (.seq (.reg [Qn 9 8 7])
 (.seq (.cond (.t 9)
 .skip
 (.exit 0))
 (.seq (.block 1 (.seq (.reg [Qa 10 8,
Qa 5 10])
 (.seq (.reg [Qa 11 1,
Qa 12 0,
Qa 13 5,
Qp 14 11 12 13,
Qc 15 11 14,
zl 16 (.callv (.t 11) [(.t 15)]) [] [12,14]])
 (.cond (.t 16)
 (.seq (.reg [Qa 17 5,
Qa 4 17])
 .ret)
 .skip))))
 (.reg [Qm 18 8 1,
Qa 8 18]))))))))
 (.seq (.reg [sq 4 (.mv (kI (-1)))])
 .ret)))⟩
theorem F121_ok{x0 b0 r}(h:F121 x0 b0=XC r):aW XI 121 [.c (dM (x0.map bo)),.c (.fn 122 [(0,0)])] [xb [dS b0]] (bJ [.c (dI r)]) [xb [dS b0]]:=by
 rw[F121]at h
 refine zc a121 (by kernel_rfl) rfl (ww ?_)
 obtain⟨o1,ho,h⟩:=bi h
 refine bD (fun s=>∃po1,o1=XJ po1∧s=⟨[],[xb [dS b0]]⟩) ?_ ?_
 ·have h0o1:=h
  have h:=ho
  obtain⟨_,hk,h⟩:=bi h
  have hk:=cr hk
  refine ww ?_
  refine bL (fun j s=>∃(o1_0:Nat),(o1_0≤x0.length∧j=x0.length-o1_0)∧s=⟨[(0,oM (x0.map bo)),(1,oc (.fn 122 [(0,0)])),(7,oI (x0.length:Int)),(8,oI (o1_0:Int))],[xb [dS b0]]⟩∧F121_l1 b0 (x0.drop o1_0) o1_0=XC o1) (x0.length-0) [XC 0] ⟨0,⟨hk.1,rfl⟩,rfl,h⟩ ?_
  rintro _ _ ⟨o1_0,⟨hi,rfl⟩,rfl,h⟩
  refine ww ?_
  refine dq (fun c2=>?_) (fun c2=>?_)
  ·obtain⟨xo1,hxo1,hd⟩:=cW (show(o1_0:Int)<(x0.length:Int)from c2)
   rw[hd,F121_l1]at h
   refine ww ?_
   refine bI (enc:=bo) (xs:=x0) rfl rfl hxo1 rfl (ww ?_)
   obtain⟨t3,ht3,h⟩:=bi h
   refine cN [0] (F122_ok ht3) ⟨⟨(by first|rfl|(simp only[List.length_set];rfl)),by simp[bw.live,C.live,hp]⟩,trivial⟩ ?_
   refine ww ?_
   refine bG h (fun c4 h=>ww ?_) (fun c4 h=>ww ?_)
   ·obtain⟨fh0o1,hfh0o1,rfl⟩:=XF.1 h
    have h:=hfh0o1.trans h0o1
    cases h
    exact eF [XC 0]
   rw[cL (by omega)]
   exact jo (x0.length-(o1_0+1)) [XC 0] ⟨o1_0+1,⟨by omega,rfl⟩,rfl,h⟩ (by omega)
  rw[cX (show¬((o1_0:Int)<(x0.length:Int))from c2),F121_l1]at h
  refine ww ?_
  cases h
  exact eM [XC 0] ⟨_,rfl,rfl⟩
 rintro _ ⟨po1,rfl,rfl⟩
 dsimp only at h
 refine ww ?_
 cases h
 exact eF [XC 0]
theorem F64_ok{x0 r:List ByteArray}{e0:Nat}(h:xx x0=XC r):aW XI 64 [.c (.own 0 e0 0 x0.length XD)] [iS e0 x0] (bJ []) [iS e0 r]:=Od (ρ:=Tryz.rG) Tryz.Ih rfl (by kernel_rfl) h
def F7_l1:List aN→Nat→Option ((Bool) ⊕ (Unit))
 |[],o1_0=>XC (XJ (()))
 |xo1::xs,o1_0=>(((F26 xo1.an).bind fun t4=>(if(nb t4)=XH then XC XH else(if 130<(xo1.aV.size:Int)then XC XH else XC (decide (60<(xo1.aP.size:Int)))))).bind fun o3=>(if o3=XH then(XC XH).map XK else F7_l1 xs (o1_0+1)))
def F7(x0:eC)(x1:(List aN)):Option (Bool):=(((ck (0≤x1.length∧x1.length≤4294967290)).bind fun u8=>F7_l1 x1 0:Option ((Bool) ⊕ (Unit))).bind fun o1=>match o1 with|XK f=>XC f|XJ po1=>(((if 40<(x1.length:Int)then XC XH else(if 20<(x0.aM.length:Int)then XC XH else(if 20<(x0.dQ.length:Int)then XC XH else XC (decide (30<(x0.ak.cS.length:Int))))))).bind fun o9=>XC o9))
def a7:dG:=⟨59,[(.tmp 4)],
 (.seq (.reg [Qg 2 0,
Qf 4 XG])
 (.seq (.seq (.reg [Qe 5 0])
 (.sem (.block 0 (.loop (.seq (.seq (.reg [Qa 6 5,
Qa 7 1,
Qh 8 7,
Qn 9 6 8])
 (.cond (.t 9)
 .skip
 (.exit 0)))
 (.seq (.block 1 (.seq (.sem (.reg [Qa 12 1,
Qa 13 5,
Qp 14 37 12 13,
Qb 15 5 14,
Qc 16 32 15,
Qk 17 26 16,
Qq 18 17,
Qa 19 18,
Qv 20 19 XG 1,
Qv 21 19 XG 5,
zg 22 19 XG (.indexA 37 (.t 20) (.t 21)),
Qs 23 19 XG 2 22,
Qt 24 19 XG 23,
zg 25 19 XG (.slen (.t 24)),
zg 26 19 XG (.bin .gtr (.t 25) (kI 130)),
Qj 27 19 26,
Qa 28 27,
Qv 29 28 XG 1,
Qv 30 28 XG 5,
zg 31 28 XG (.indexA 37 (.t 29) (.t 30)),
Qs 32 28 XG 3 31,
Qt 33 28 XG 32,
zg 34 28 XG (.slen (.t 33)),
zg 35 28 XG (.bin .gtr (.t 34) (kI 60)),
Qj 36 28 35]))
 (.cond (.t 36)
 (.seq (.reg [Qf 4 XH])
 .ret)
 .skip)))
 (.reg [Qa 10 5,
Qm 11 10 1,
Qa 5 11])))))))
 (.seq (.sem (.reg [Qa 37 1,
Qh 38 37,
sq 39 (.bin .gtr (.t 38) (kI 40)),
Qa 40 39,
Qs 41 40 XG 23 2,
Qt 42 40 XG 41,
zg 43 40 XG (.len (.t 42)),
zg 44 40 XG (.bin .gtr (.t 43) (kI 20)),
Qj 45 40 44,
Qa 46 45,
Qs 47 46 XG 18 2,
Qt 48 46 XG 47,
zg 49 46 XG (.len (.t 48)),
zg 50 46 XG (.bin .gtr (.t 49) (kI 20)),
Qj 51 46 50,
Qa 52 51,
Qs 53 52 XG 0 2,
Qs 54 52 XG 9 53,
Qt 55 52 XG 54,
zg 56 52 XG (.len (.t 55)),
zg 57 52 XG (.bin .gtr (.t 56) (kI 30)),
Qj 58 52 57,
Qa 4 58]))
 .ret)))⟩
theorem F7_ok{x0 x1 r}(h:F7 x0 x1=XC r):aW XI 7 [.agg (jy x0),.c (dM (x1.map bN))] [] (bJ [.c (dB r)]) []:=by
 rw[F7]at h
 refine zc a7 (by kernel_rfl) rfl (ww ?_)
 obtain⟨o1,ho,h⟩:=bi h
 refine bD (fun s=>∃po1,o1=XJ po1∧s=⟨[(1,oM (x1.map bN)),(2,Pz 0)],[xb (jy x0)]⟩) ?_ ?_
 ·have h0o1:=h
  have h:=ho
  obtain⟨_,hk,h⟩:=bi h
  have hk:=cr hk
  refine ww ?_
  refine bL (fun j s=>∃(o1_0:Nat),(o1_0≤x1.length∧j=x1.length-o1_0)∧s=⟨[(1,oM (x1.map bN)),(2,Pz 0),(5,oI (o1_0:Int))],[xb (jy x0)]⟩∧F7_l1 (x1.drop o1_0) o1_0=XC o1) (x1.length-0) [XC 0] ⟨0,⟨hk.1,rfl⟩,rfl,h⟩ ?_
  rintro _ _ ⟨o1_0,⟨hi,rfl⟩,rfl,h⟩
  refine ww ?_
  refine dq (fun c2=>?_) (fun c2=>?_)
  ·obtain⟨xo1,hxo1,hd⟩:=cW (show(o1_0:Int)<(x1.length:Int)from c2)
   rw[hd,F7_l1]at h
   refine ww ?_
   obtain⟨o3,ho,h⟩:=bi h
   refine bD (fun s=>s=⟨[(1,oM (x1.map bN)),(2,Pz 0),(5,oI (o1_0:Int)),(36,oB o3)],[xb (jy x0)]⟩) ?_ ?_
   ·have h:=ho
    refine ww ?_
    refine bI (enc:=bN) (xs:=x1) rfl rfl hxo1 rfl (ww ?_)
    obtain⟨t4,ht4,h⟩:=bi h
    refine cN [] (F26_ok ht4) trivial (ww ?_)
    refine dK h (fun g5 h=>ww ?_) (fun g5 h=>ww ?_)
    ·cases h
     exact eM [XC 0] rfl
    refine bI (enc:=bN) (xs:=x1) rfl rfl hxo1 rfl (ww ?_)
    refine bR h (fun g6 h=>ww ?_) (fun g6 h=>ww ?_)
    ·cases h
     exact eM [XC 0] rfl
    refine bI (enc:=bN) (xs:=x1) rfl rfl hxo1 rfl (ww ?_)
    cases h
    exact eM [XC 0] rfl
   rintro _ rfl
   refine ww ?_
   refine ct h (fun c7 h=>ww ?_) (fun c7 h=>ww ?_)
   ·obtain⟨fh0o1,hfh0o1,rfl⟩:=XF.1 h
    have h:=hfh0o1.trans h0o1
    cases h
    exact eF []
   rw[cL (by omega)]
   exact jo (x1.length-(o1_0+1)) [XC 0] ⟨o1_0+1,⟨by omega,rfl⟩,rfl,h⟩ (by omega)
  rw[cX (show¬((o1_0:Int)<(x1.length:Int))from c2),F7_l1]at h
  refine ww ?_
  cases h
  exact eM [XC 0] ⟨_,rfl,rfl⟩
 rintro _ ⟨po1,rfl,rfl⟩
 dsimp only at h
 refine ww ?_
 obtain⟨o9,ho,h⟩:=bi h
 refine bD (fun s=>s=⟨[(4,oB o9)],[]⟩) ?_ ?_
 ·have h:=ho
  refine ww ?_
  refine bR h (fun g10 h=>ww ?_) (fun g10 h=>ww ?_)
  ·cases h
   exact eM [] rfl
  refine bR h (fun g11 h=>ww ?_) (fun g11 h=>ww ?_)
  ·cases h
   exact eM [] rfl
  refine bR h (fun g12 h=>ww ?_) (fun g12 h=>ww ?_)
  ·cases h
   exact eM [] rfl
  cases h
  exact eM [] rfl
 rintro _ rfl
 refine ww ?_
 cases h
 exact eF []
def Kb:AC:=(.regd [Qa 38 1,
Qa 39 6,
Qa 40 7,
sd 41 (.indexA 3 (.t 39) (.t 40)) [1,2],
sd 42 (.load (XC 3) (.t 41)) [1,2,3],
Qa 43 6,
Qa 44 7,
sd 45 (.bin .sub (.t 44) (kI 1)) [6],
sd 46 (.indexA 3 (.t 43) (.t 45)) [5,6,7],
sd 47 (.load (XC 3) (.t 46)) [5,6,7,8],
zl 48 (.callv (.t 38) [(.t 42),(.t 47)]) [0,1,2,3,4,5,6,7,8,9] [],
sd 49 (.not (.t 48)) [0,1,2,3,4,5,6,7,8,9,10]])
def F33i(e:Nat)(xs:List aw)(k:Int)(k0:Nat)(vv:List aw)(q:Int):Option (Bool):=(HP xs k0 vv.length q).bind fun y1=>(HP xs k0 vv.length ((IntKind.i64.wrap (q-1)))).bind fun y2=>(F34 y1 y2).bind fun t3=>XC (decide (¬(y1.aV=y2.aV)))
theorem F33i_ok{e:Nat}{xs:List aw}{k:Int}{k0:Nat}{vv:List aw}{q:Int}(hv:k0+vv.length≤xs.length){r:Bool}(h:F33i e xs k k0 vv q=XC r):sK XI 66 1 Kb [] (sM 66 1 (fun s=>s=⟨[(0,oc (ow 0 e xs)),(1,oc (.fn 34 [])),(5,oI k),(6,oc (.own 0 e k0 (vv.length) XD)),(7,oI q),(49,oB r)],[ba e xs]⟩) (xQ 66 1 (fun _ _=>False) (fun _=>False)))
 ⟨[(0,oc (ow 0 e xs)),(1,oc (.fn 34 [])),(5,oI k),(6,oc (.own 0 e k0 (vv.length) XD)),(7,oI q)],[ba e xs]⟩:=by
 rw[F33i]at h
 unfold Kb
 refine ww ?_
 obtain⟨y1,hy1,h⟩:=bi h
 refine B5 (enc:=aR) (xs:=xs) rfl rfl rfl hy1 (ww ?_)
 refine cD.rd (aQ (js hy1)).2.1 (ww ?_)
 obtain⟨y2,hy2,h⟩:=bi h
 refine B5 (enc:=aR) (xs:=xs) rfl rfl rfl hy2 (ww ?_)
 refine cD.rd (aQ (js hy2)).2.1 (ww ?_)
 obtain⟨t3,ht3,h⟩:=bi h
 have qx:=q2 (bc (js hy1)) (bc (js hy2))
 refine cQ [] (F34_ok ht3) (ww ?_)
 cases h
 have qx:=q3 (bc (js hy1)) (bc (js hy2)) (hv)
 exact fI [XC 0] rfl
def JJ:AC:=(.seq (.sem (.reg [Qa 15 5,
Qq 16 15,
Qa 17 16,
Qv 18 17 XG 0,
Qs 19 17 XG 0 18,
Qs 20 17 XG 0 19,
Qs 21 17 XG 25 20,
Qt 22 17 XG 21,
Qv 23 17 XG 4,
zg 24 17 XG (.indexA 36 (.t 22) (.t 23)),
Qu 25 17 XG 36 24,
zg 26 17 XG (.call 62 [(.t 25)]),
Qj 27 17 26]))
 (.cond (.t 27)
 .ret
 .skip))
def F41c(e1:Nat)(b0:aj)(pods:List au)(v:aN)(k:Int)(ok:Bool):Option ((Unit) ⊕ (Unit)):=(((if(nb ok)=XH then XC XH else(cI pods k).bind fun y3=>(F10062 y3).bind fun t4=>XC t4)).bind fun o1=>(if o1=XH then XC (XK (()))else XC (XJ (()))))
theorem F41c_ok{e1 b0 pods v k ok r}(h:F41c e1 b0 pods v k ok=XC r):sK XI 83 2 JJ [] (sM 83 2 (fun s=>∃o1,r=XJ (o1)∧s=⟨[(0,Pz 0),(3,Pz 2),(4,oI k)],[xb (aA b0 (ow 1 e1 pods)),ai e1 pods,xb (aZ v)]⟩) (xQ 83 2 (fun _ _=>False) (fun s=>∃o0,r=XK o0∧s=⟨[(0,Pz 0)],[xb (aA b0 (ow 1 e1 pods)),ai e1 pods]⟩)))
 ⟨[(0,Pz 0),(3,Pz 2),(4,oI k),(5,oB ok)],[xb (aA b0 (ow 1 e1 pods)),ai e1 pods,xb (aZ v)]⟩:=by
 rw[F41c]at h
 unfold JJ
 refine ww ?_
 obtain⟨o1,ho,h⟩:=bi h
 refine bD (fun s=>s=⟨[(0,Pz 0),(3,Pz 2),(4,oI k),(27,oB o1)],[xb (aA b0 (ow 1 e1 pods)),ai e1 pods,xb (aZ v)]⟩) ?_ ?_
 ·have h:=ho
  refine ww ?_
  refine dK h (fun g2 h=>ww ?_) (fun g2 h=>?_)
  ·cases h
   exact eM i3 rfl
  ·refine ww ?_
   obtain⟨y3,hy3,h⟩:=bi h
   refine tO (enc:=aS) (xs:=pods) rfl rfl rfl hy3 (ww ?_)
   refine cD.rd (aQ hy3).2.1 (ww ?_)
   obtain⟨t4,ht4,h⟩:=bi h
   have qx:=q1 (bc hy3)
   refine cQ [] (F10062_ok ht4) (ww ?_)
   cases h
   have qx:=q1 (bc hy3)
   exact fI i3 rfl
 ·rintro _ rfl
  refine ww ?_
  refine ct h (fun c5 h=>ww ?_) (fun c5 h=>?_)
  ·cases h
   exact eR i2 ⟨_,rfl,rfl⟩
  ·refine ww ?_
   cases h
   exact eM i3 ⟨_,rfl,rfl⟩
theorem a120_ok:nv XI 120=XC (mQ 36 544 [.v (.string ⟨#[]⟩),.v (.string ⟨#[]⟩),.v (.string ⟨#[]⟩),.v (.int .i64 0),.v (.int .i64 0),.v (.int .i64 0),.v (.int .i64 0),.v (.bool XG),.v (.int .i64 0),.sl [],.sl [],.sl [],.sl [],.v (.string ⟨#[]⟩),.v (.int .i64 0),.v (.int .i64 0),.v (.int .i64 0),.sl [],.sl [],.sl [],.sl [],.sl [],.sl [],.v (.int .i64 0),.v (.bool XG),.v (.int .i64 0),.v (.int .i64 0),.v (.int .i64 0),.sl [],.v (.int .i64 0),.v (.string ⟨#[]⟩),.v (.string ⟨#[]⟩),.sl [],.sl [],.v (.bool XG),.v (.int .i64 0)] 184 185):=by kernel_rfl
theorem F120_ok{x0 r:List au}{i:Int}{x:au}{e0 e1:Nat}(h:lL x0 i x=XC r):aW XI 120 [.c (.own 0 e0 0 x0.length XD),aI i,.c (.own 1 e1 0 [x].length XD)] [ai e0 x0,XC (.arr e1 36 ([x].map aS))] (bJ [.c (.own 0 (e0+1) 0 r.length XD)]) [ai (e0+1) r,XC (.arr e1 36 ([x].map aS))]:=BR a120_ok OR (fun _=>rfl) h
def JM:AC:=(.seq (.reg [Qa 47 0,
Qb 48 0 47,
Qb 49 0 48,
Qb 50 25 49,
Qd 51 50,
Qa 52 4,
Qp 53 36 51 52,
Qa 6 53])
 (.seq (.reg [Qa 54 6,
Qb 55 0 3,
Qc 56 13 55,
Qb 57 0 54,
Qb 58 0 57,
Qb 59 0 58,
⟨XD,XD,.store 13 (.t 59) (.t 56),[],(.lone [3,55,54,57,58])⟩])
 (.seq (.sem (.reg [Qb 60 0 3,
Qb 61 7 60,
Qd 62 61,
Qa 63 62,
Qv 64 63 XH 6,
Qs 65 63 XH 0 64,
Qu 66 63 XH 36 65,
zg 67 63 XH (.call 62 [(.t 66)]),
zg 68 63 XH (.not (.t 67)),
Qi 69 63 68,
Qa 70 69,
Qv 71 70 XH 6,
Qs 72 70 XH 0 71,
Qs 73 70 XH 34 72,
Qt 74 70 XH 73,
zg 75 70 XH (.not (.t 74)),
Qi 76 70 75]))
 (.cond (.t 76)
 (.seq (.reg [Qa 77 6,
Qb 78 0 77,
Qb 79 34 78,
⟨XD,XD,.store 1 (.t 79) (kB XH),[],(.lone [77,78])⟩])
 (.regd [Qa 80 6,
Qa 81 0,
sd 82 (.fieldA 0 (.t 81)) [1],
sd 83 (.fieldA 0 (.t 82)) [1,2],
sd 84 (.fieldA 24 (.t 83)) [1,2,3],
sd 85 (.load XD (.t 84)) [1,2,3,4],
Qb 86 0 3,
sd 87 (.fieldA 8 (.t 86)) [6],
sd 88 (.load XD (.t 87)) [6,7],
zl 89 (.call 36 [(.t 88)]) [6,7,8] [81,82,83,84],
sd 90 (.max (.t 85) (.t 89)) [1,2,3,4,5,6,7,8,9],
sd 91 (.fieldA 0 (.t 80)) [0,1,2,3,4,5,6,7,8,9,10],
sd 92 (.fieldA 35 (.t 91)) [0,1,2,3,4,5,6,7,8,9,10,11],
⟨XD,XD,.store 1 (.t 92) (.t 90),[0,1,2,3,4,5,6,7,8,9,10,11,12],(.lone [])⟩]))
 .skip))))
def F38f(e1:Nat)(b0:aj)(pods:List au)(v:an)(k:Int):Option ((List au)):=(cI pods k).bind fun y1=>(((if v.ak.bP=XH then(F10062 ((⟨(⟨v.ak,y1.an.Spec,y1.an.ae⟩:gZ),y1.aK,y1.aq,y1.bh,y1.bK⟩:au))).bind fun t4=>(if(nb t4)=XH then XC (nb y1.bh)else XC XG)else XC XG)).bind fun o2=>(if o2=XH then(F36 v.ak.bz).bind fun t7=>XC ((((((pods.set k.toNat ((⟨(⟨v.ak,y1.an.Spec,y1.an.ae⟩:gZ),y1.aK,y1.aq,y1.bh,y1.bK⟩:au)))).set k.toNat ((⟨(⟨v.ak,y1.an.Spec,y1.an.ae⟩:gZ),y1.aK,y1.aq,XH,y1.bK⟩:au)))).set k.toNat ((⟨(⟨v.ak,y1.an.Spec,y1.an.ae⟩:gZ),y1.aK,y1.aq,XH,(if b0.ah.cl<(if 1000000000000<(if v.ak.bz<0 then 0 else v.ak.bz)then 1000000000000 else(if v.ak.bz<0 then 0 else v.ak.bz))then(if 1000000000000<(if v.ak.bz<0 then 0 else v.ak.bz)then 1000000000000 else(if v.ak.bz<0 then 0 else v.ak.bz))else b0.ah.cl)⟩:au))))else XC ((pods.set k.toNat ((⟨(⟨v.ak,y1.an.Spec,y1.an.ae⟩:gZ),y1.aK,y1.aq,y1.bh,y1.bK⟩:au))))))
theorem F38f_ok{e1 b0 pods v k r}(h:F38f e1 b0 pods v k=XC r):sK XI 93 2 JM [] (sM 93 2 (fun s=>s=⟨[(0,Pz 0)],[xb (aA b0 (ow 1 e1 r)),ai e1 r]⟩) (xQ 93 2 (fun _ _=>False) (fun _=>False)))
 ⟨[(0,Pz 0),(3,Pz 2),(4,oI k)],[xb (aA b0 (ow 1 e1 pods)),ai e1 pods,xb (jD v)]⟩:=by
 rw[F38f]at h
 unfold JM
 refine ww ?_
 obtain⟨y1,hy1,h⟩:=bi h
 refine tO (enc:=aS) (xs:=pods) rfl rfl rfl hy1 (ww ?_)
 refine eu.rd (y':=(⟨(⟨v.ak,y1.an.Spec,y1.an.ae⟩:gZ),y1.aK,y1.aq,y1.bh,y1.bK⟩:au)) (aQ hy1).2.1 (by simp[EE.down]) (by first|rfl|(simp only[b5];rfl)) (ww ?_)
 obtain⟨o2,ho,h⟩:=bi h
 refine bD (fun s=>s=⟨[(0,Pz 0),(3,Pz 2),(6,oc (.pe 1 e1 k.toNat 0)),(76,oB o2)],[xb (aA b0 (.own 1 e1 0 (((pods.set k.toNat ((⟨(⟨v.ak,y1.an.Spec,y1.an.ae⟩:gZ),y1.aK,y1.aq,y1.bh,y1.bK⟩:au)))).length) XD)),ai e1 ((pods.set k.toNat ((⟨(⟨v.ak,y1.an.Spec,y1.an.ae⟩:gZ),y1.aK,y1.aq,y1.bh,y1.bK⟩:au)))),xb (jD v)]⟩) ?_ ?_
 ·have h:=ho
  refine ww ?_
  refine dK h (fun g3 h=>ww ?_) (fun g3 h=>?_)
  ·refine cD.rd (aQ (eE hy1)).2.1 (ww ?_)
   obtain⟨t4,ht4,h⟩:=bi h
   have qx:=q1 (bc hy1)
   refine cQ [] (F10062_ok ht4) (ww ?_)
   refine dK h (fun g5 h=>ww ?_) (fun g5 h=>?_)
   ·refine cD.rd (aQ (eE hy1)).2.1 (ww ?_)
    cases h
    have qx:=q1 (bc hy1)
    exact fI i3 rfl
   ·refine ww ?_
    cases h
    have qx:=q1 (bc hy1)
    exact fI i3 rfl
  ·refine ww ?_
   cases h
   have qx:=q1 (bc hy1)
   exact fI i3 rfl
 ·rintro _ rfl
  refine ww ?_
  refine ct h (fun c6 h=>ww ?_) (fun c6 h=>?_)
  ·refine eu.rd (y':=(⟨(⟨v.ak,y1.an.Spec,y1.an.ae⟩:gZ),y1.aK,y1.aq,XH,y1.bK⟩:au)) (aQ (eE hy1)).2.1 (by simp[EE.down]) (by first|rfl|(simp only[b5];rfl)) (ww ?_)
   obtain⟨t7,ht7,h⟩:=bi h
   have qx:=q1 (bc hy1)
   refine cQ [] (F36_ok ht7) (ww ?_)
   refine eu.rd (y':=(⟨(⟨v.ak,y1.an.Spec,y1.an.ae⟩:gZ),y1.aK,y1.aq,XH,(if b0.ah.cl<(if 1000000000000<(if v.ak.bz<0 then 0 else v.ak.bz)then 1000000000000 else(if v.ak.bz<0 then 0 else v.ak.bz))then(if 1000000000000<(if v.ak.bz<0 then 0 else v.ak.bz)then 1000000000000 else(if v.ak.bz<0 then 0 else v.ak.bz))else b0.ah.cl)⟩:au)) (aQ (eE (eE hy1))).2.1 (by simp[EE.down]) (by first|rfl|(simp only[b5];rfl)) (ww ?_)
   cases h
   have qx:=q1 (bc hy1)
   exact fI i2 rfl
  ·refine ww ?_
   cases h
   have qx:=q1 (bc hy1)
   exact fI i2 rfl
def J0:AC:=(.reg [Qa 16 3,
Qb 17 25 1,
Qd 18 17,
Qk 19 70 18,
Qb 20 0 16,
Qb 21 0 20,
Qb 22 25 21,
su (.store 1 (.t 22) (.t 19))])
def F37d(a:ah)(il:List aw):Option ((List af)):=(gw a.bq).bind fun t1=>XC t1
theorem F37d_ok{a il r}(h:F37d a il=XC r):sK XI 60 0 J0 [] (sM 60 0 (fun s=>s=⟨[(3,Pz 0)],[xb (gW a (ow 1 0 r) (ow 2 0 il)),fj 0 r,ba 0 il]⟩) (xQ 60 0 (fun _ _=>False) (fun _=>False)))
 ⟨[(1,Pz 0),(3,Pz 1)],[xb (dy a),xb (BK a (ow 2 0 il)),ba 0 il]⟩:=by
 rw[F37d]at h
 unfold J0
 refine ww ?_
 obtain⟨t1,ht1,h⟩:=bi h
 refine cN [] (F70_ok ht1) trivial (ww ?_)
 cases h
 exact eM [XC 1,XC 3,XC 2] rfl
def JZ:AC:=(.reg [Qa 23 3,
Qb 24 0 23,
Qb 25 0 24,
Qb 26 25 25,
Qd 27 26,
Qh 28 27,
Qe 29 0])
def F37e(e1:Nat)(b0:aj)(mx:List Gv):Option (Unit):=XC (())
theorem F37e_ok{e1 b0 mx r}(h:F37e e1 b0 mx=XC r):sK XI 60 0 JZ [] (sM 60 0 (fun s=>s=⟨[(3,Pz 0),(27,oc (ow 1 0 mx)),(28,oI (mx.length:Int)),(29,oI 0)],[xb (aA b0 (ow 1 0 mx)),XC (.arr 0 36 (mx.map jC))]⟩) (xQ 60 0 (fun _ _=>False) (fun _=>False)))
 ⟨[(3,Pz 0)],[xb (aA b0 (ow 1 e1 mx)),XC (.arr e1 36 (mx.map jC))]⟩:=by
 rw[F37e]at h
 unfold JZ
 refine ww ?_
 cases h
 exact eM i2 rfl
def JY:AC:=(.reg [Qa 31 29,
Qp 32 36 27 29])
def F37f(e1:Nat)(b0:aj)(mx:List Gv)(n:Int)(i:Int):Option (Unit):=(cI mx i).bind fun y1=>XC (())
theorem F37f_ok{e1 b0 mx n i r}(h:F37f e1 b0 mx n i=XC r):sK XI 60 0 JY [] (sM 60 0 (fun s=>s=⟨[(3,Pz 0),(27,oc (ow 1 0 mx)),(28,oI n),(29,oI i),(31,oI i),(32,oc (.pe 1 0 i.toNat 0))],[xb (aA b0 (ow 1 0 mx)),XC (.arr 0 36 (mx.map jC))]⟩) (xQ 60 0 (fun _ _=>False) (fun _=>False)))
 ⟨[(3,Pz 0),(27,oc (ow 1 e1 mx)),(28,oI n),(29,oI i)],[xb (aA b0 (ow 1 e1 mx)),XC (.arr e1 36 (mx.map jC))]⟩:=by
 rw[F37f]at h
 unfold JY
 refine ww ?_
 obtain⟨y1,hy1,h⟩:=bi h
 refine tO (enc:=jC) (xs:=mx) rfl rfl rfl hy1 (ww ?_)
 cases h
 have qx:=q1 (bc hy1)
 exact fI i2 rfl
end Go.Proofs.YtojbebejhgbfeaaGreat
