/- Each Go function as a function over typed data, and its walk. -/
import Derived.Test.YtojbebejhgbfeaaGreatW0
open Go.Proofs.Tryz renaming prog->XC
open Option renaming some->XD,none->XF
open Go.IntKind renaming i64->XG
open Bool renaming false->XH
namespace Go.Proofs.YtojbebejhgbfeaaGreat
open Go Go.Fw Go.Shelf
set_option maxRecDepth 100000
set_option maxHeartbeats 4000000
set_option linter.unusedSimpArgs false
set_option linter.unusedVariables false
def F186(x0:Int):Option (Unit):=XD (())
def a186:dG:=⟨6,[(.tmp 2)],
 (.seq (.reg [Qe 2 0])
 (.seq (.reg [Qa 3 0,
sq 4 (.max (.t 3) (kI 0)),
sq 5 (.min (.t 4) (kI 1000000000000)),
Qa 2 5])
 .ret))⟩
theorem F186_ok{x0 r}(h:F186 x0=XD r):aW XC 186 [.c (dI x0)] [] (bJ [.c (dI ((if 1000000000000<(if x0<0 then 0 else x0)then 1000000000000 else(if x0<0 then 0 else x0))))]) []:=by
 rw[F186]at h
 refine zc a186 (by kernel_rfl) rfl (ww ?_)
 cases h
 exact eF []
def Dt:AC:=(.reg [Qb 5 8 2,
Qd 6 5,
Qb 7 9 2,
Qd 8 7,
Qb 9 10 2,
Qd 10 9,
sq 11 (.build [dN,dN,dN] [(0,1,(.t 6)),(1,1,(.t 8)),(2,1,(.t 10))]),
Qa 12 1])
def F124b(x0:aP)(x1:Int):Option (Unit):=XD (())
theorem F124b_ok{x0 x1 r}(h:F124b x0 x1=XD r):sK XC 14 0 Dt [] (sM 14 0 (fun s=>s=⟨[(11,.one (.agg [dM (x0.jl.map el),dM (x0.bd.map el),dM (x0.dt.map el)])),(12,oI x1)],[]⟩) (xQ 14 0 (fun _ _=>False) (fun _=>False)))
 ⟨[(1,oI x1),(2,Pz 0)],[xb (fG x0)]⟩:=by
 rw[F124b]at h
 unfold Dt
 refine ww ?_
 cases h
 exact eM [] rfl
def F189(x0:Int)(x1:Int)(x2:Int):Option (Unit):=XD (())
def a189:dG:=⟨12,[(.tmp 6)],
 (.seq (.reg [Qe 6 0])
 (.seq (.reg [Qa 7 0,
Qa 8 1,
sq 9 (.max (.t 7) (.t 8)),
Qa 10 2,
sq 11 (.min (.t 9) (.t 10)),
Qa 6 11])
 .ret))⟩
theorem F189_ok{x0 x1 x2 r}(h:F189 x0 x1 x2=XD r):aW XC 189 [.c (dI x0),.c (dI x1),.c (dI x2)] [] (bJ [.c (dI ((if x2<(if x0<x1 then x1 else x0)then x2 else(if x0<x1 then x1 else x0))))]) []:=by
 rw[F189]at h
 refine zc a189 (by kernel_rfl) rfl (ww ?_)
 cases h
 exact eF []
def F199(x0:cp)(x1:Int):Option (Unit):=XD (())
def a199:dG:=⟨9,[(.tmp 4)],
 (.seq (.reg [Qg 2 0,
Qf 4 XH])
 (.seq (.reg [Qa 5 1,
Qb 6 1 2,
Qd 7 6,
sq 8 (.bin .geq (.t 5) (.t 7)),
Qa 4 8])
 .ret))⟩
theorem F199_ok{x0 x1 r}(h:F199 x0 x1=XD r):aW XC 199 [.agg [dI x0.cM,dI x0.At],.c (dI x1)] [] (bJ [.c (dB (decide (x0.At≤x1)))]) []:=by
 rw[F199]at h
 refine zc a199 (by kernel_rfl) rfl (ww ?_)
 cases h
 exact eF []
noncomputable def O0:Func:=(Tryz.prog.funcs[115]?).getD default
theorem Iy:Tryz.prog.funcs[115]? =XD O0:=by kernel_rfl
theorem F115_ok{a b:ByteArray}{r:Int}(h:N3 a b=XD r):aW XC 115 [.c (dS a),.c (dS b)] [] (bJ [.c (dI r)]) []:=Po Iy (by kernel_rfl) (by kernel_rfl) (by kernel_rfl) (by kernel_rfl) h
theorem a29_ok:nv XC 29=XD (lQ 3 32):=by kernel_rfl
theorem F29_ok{x0 r:List aw}(h:gw x0=XD r):aW XC 29 [.c (dM (x0.map aR))] [] (bJ [.c (.own 0 1 0 r.length XF)]) [ba 1 r]:=sa a29_ok (fun _=>rfl) h
def F130(x0:aw)(b0:ByteArray):Option (Unit):=XD (())
def a130:dG:=⟨8,[(.tmp 3)],
 (.seq (.reg [Qg 2 0,
Qf 3 XH])
 (.seq (.reg [Qb 4 0 2,
Qd 5 4,
Qd 6 1,
sq 7 (.bin .geq (.t 5) (.t 6)),
Qa 3 7])
 .ret))⟩
theorem F130_ok{x0 b0 r}(h:F130 x0 b0=XD r):aW XC 130 [.agg (lf x0),.c (.pt 0 0)] [xb [dS b0]] (bJ [.c (dB (nb (Op.bytesLess x0.aV.toList b0.toList)))]) [xb [dS b0]]:=by
 rw[F130]at h
 refine zc a130 (by kernel_rfl) rfl (ww ?_)
 cases h
 exact eF [XD 0]
theorem a128_ok:nv XC 128=XD (nf 3 32 [.v (.string ⟨#[]⟩),.v (.int .i64 0),.v (.int .i64 0)]):=by kernel_rfl
theorem F128_ok{x0 r:List aw}{i j:Int}{e0:Nat}(h:oz x0 i j=XD r):aW XC 128 [.c (.own 0 e0 0 x0.length XF),aI i,aI j] [ba e0 x0] (bJ [.c (.own 0 (e0+1) 0 r.length XF)]) [ba (e0+1) r]:=BS a128_ok (fun _=>rfl) h
def F229_l1(x1:Int)(x2:Int)(x3:Int):Nat→(List Entry)→Int→Option ((List Entry))
 |0,_,_=>XF
 |k+1,o1_0,o1_1=>(if o1_1<x3 then(cI o1_0 ((XG.wrap (x2+o1_1)))).bind fun y3=>(cI o1_0 ((XG.wrap (x1+o1_1)))).bind fun y4=>(cI ((o1_0.set ((XG.wrap (x1+o1_1))).toNat y3)) ((XG.wrap (x2+o1_1)))).bind fun y5=>F229_l1 x1 x2 x3 k ((((o1_0.set ((XG.wrap (x1+o1_1))).toNat y3)).set ((XG.wrap (x2+o1_1))).toNat y4)) ((XG.wrap (o1_1+1)))else XD o1_0)
def F229i(x0:(List Entry))(x1:Int)(x2:Int)(x3:Int):Option ((List Entry)):=((F229_l1 x1 x2 x3 1099511627776 x0 0).bind fun o1=>XD o1)
def F229(x0:(List Entry))(x1:Int)(x2:Int)(x3:Int):Option ((List Entry)):=(F229i x0 x1 x2 x3).bind fun r=>if r.length=x0.length then XD r else XF
theorem F229_len0{x0:(List Entry)}{x1:Int}{x2:Int}{x3:Int}{r:(List Entry)}(h:F229 x0 x1 x2 x3=XD r):r.length=x0.length:=(bp h).2
def a229:dG:=⟨38,[],
 (.seq (.reg [Qe 10 0])
 (.sem (.block 0 (.loop (.seq (.seq (.reg [Qa 11 10,
Qa 12 3,
Qn 13 11 12])
 (.cond (.t 13)
 .skip
 (.exit 0)))
 (.seq (.block 1 (.regd [Qa 16 0,
Qa 17 1,
Qa 18 10,
sd 19 (.bin .add (.t 17) (.t 18)) [1,2],
Qa 20 0,
Qa 21 2,
Qa 22 10,
sd 23 (.bin .add (.t 21) (.t 22)) [5,6],
Qa 24 0,
Qa 25 2,
Qa 26 10,
sd 27 (.bin .add (.t 25) (.t 26)) [9,10],
sd 28 (.indexA 4 (.t 24) (.t 27)) [8,9,10,11],
sd 29 (.load (XD 4) (.t 28)) [8,9,10,11,12],
Qa 30 0,
Qa 31 1,
Qa 32 10,
sd 33 (.bin .add (.t 31) (.t 32)) [15,16],
sd 34 (.indexA 4 (.t 30) (.t 33)) [14,15,16,17],
sd 35 (.load (XD 4) (.t 34)) [14,15,16,17,18],
sd 36 (.indexA 4 (.t 16) (.t 19)) [0,1,2,3,8,9,10,11,12,13,14,15,16,17,18,19],
⟨XF,XF,.store 4 (.t 36) (.t 29),[0,1,2,3,8,9,10,11,12,13,14,15,16,17,18,19,20],(.lone [])⟩,
sd 37 (.indexA 4 (.t 20) (.t 23)) [0,1,2,3,4,5,6,7,8,9,10,11,12,13,14,15,16,17,18,19,20,21],
⟨XF,XF,.store 4 (.t 37) (.t 35),[0,1,2,3,4,5,6,7,8,9,10,11,12,13,14,15,16,17,18,19,20,21,22],(.lone [])⟩]))
 (.reg [Qa 14 10,
Qm 15 14 1,
Qa 10 15])))))))⟩
theorem F229_ok{x0 x1 x2 x3 r}{e0:Nat}(h:F229 x0 x1 x2 x3=XD r):aW XC 229 [.c (ow 0 e0 x0),.c (dI x1),.c (dI x2),.c (dI x3),.c (.fn 196 [])] [cA e0 x0] (bJ []) [cA e0 r]:=by
 replace h:=(bp h).1
 rw[F229i]at h
 refine zc a229 (by kernel_rfl) rfl (ww ?_)
 obtain⟨o1,ho,h⟩:=bi h
 refine bD (fun s=>s=⟨[],[cA e0 o1]⟩) ?_ ?_
 ·have h:=ho
  refine ww ?_
  refine bL (fun j s=>∃(o1_0:List Entry) (o1_1:Int),s=⟨[(0,oc (ow 0 e0 o1_0)),(1,oI x1),(2,oI x2),(3,oI x3),(10,oI o1_1)],[cA e0 o1_0]⟩∧F229_l1 x1 x2 x3 j o1_0 o1_1=XD o1) 1099511627776 [XD 0] ⟨x0,0,rfl,h⟩ ?_
  rintro j _ ⟨o1_0,o1_1,rfl,h⟩
  cases j with
  |zero=>cases(show(XF:Option _)=XD _ from h)
  |succ j=>
   rw[F229_l1]at h
   refine ww ?_
   refine bG h (fun c2 h=>ww ?_) (fun c2 h=>?_)
   ·obtain⟨y3,hy3,h⟩:=bi h
    refine tO (enc:=ft) (xs:=o1_0) rfl rfl rfl hy3 (ww ?_)
    refine cD.rd (aQ hy3).2.1 (ww ?_)
    obtain⟨y4,hy4,h⟩:=bi h
    have qx:=q1 (bc hy3)
    refine lV (enc:=ft) (xs:=o1_0) rfl rfl rfl hy4 (ww ?_)
    refine cD.rd (aQ hy4).2.1 (ww ?_)
    have qx:=q2 (bc hy3) (bc hy4)
    refine lV (enc:=ft) (xs:=o1_0) rfl rfl rfl hy4 (ww ?_)
    refine eu.rd (y':=y3) (aQ hy4).2.1 (by simp[EE.down]) (by first|rfl|(simp only[b5];rfl)) (ww ?_)
    obtain⟨y5,hy5,h⟩:=bi h
    have qx:=q2 (bc hy3) (bc hy4)
    refine lV (enc:=ft) (xs:=((o1_0.set ((XG.wrap (x1+o1_1))).toNat y3))) rfl rfl rfl hy5 (ww ?_)
    refine eu.rd (y':=y4) (aQ hy5).2.1 (by simp[EE.down]) (by first|rfl|(simp only[b5];rfl)) (ww ?_)
    have qx:=q3 (bc hy3) (bc hy4) (bc hy5)
    exact iI j [XD 0] ⟨(((o1_0.set ((XG.wrap (x1+o1_1))).toNat y3)).set ((XG.wrap (x2+o1_1))).toNat y4),(XG.wrap (o1_1+1)),rfl,h⟩ (Nat.lt_succ_self _)
   ·refine ww ?_
    cases h
    exact eM [XD 0] rfl
 rintro _ rfl
 refine ww ?_
 cases h
 exact eF [XD 0]
theorem a71_ok:nv XC 71=XD (lQ 7 56):=by kernel_rfl
theorem F71_ok{x0 r:List ag}(h:gw x0=XD r):aW XC 71 [.c (dM (x0.map aC))] [] (bJ [.c (.own 0 1 0 r.length XF)]) [aE 1 r]:=sa a71_ok (fun _=>rfl) h
def F36(x0:Int):Option (Unit):=XD (())
def a36:dG:=⟨6,[(.tmp 2)],
 (.seq (.reg [Qe 2 0])
 (.seq (.reg [Qa 3 0,
sq 4 (.max (.t 3) (kI 0)),
sq 5 (.min (.t 4) (kI 1000000000000)),
Qa 2 5])
 .ret))⟩
theorem F36_ok{x0 r}(h:F36 x0=XD r):aW XC 36 [.c (dI x0)] [] (bJ [.c (dI ((if 1000000000000<(if x0<0 then 0 else x0)then 1000000000000 else(if x0<0 then 0 else x0))))]) []:=by
 rw[F36]at h
 refine zc a36 (by kernel_rfl) rfl (ww ?_)
 cases h
 exact eF []
def Ki:AC:=(.seq (.reg [Qa 8 0,
Qh 9 8,
sq 10 (.bin .lss (.t 9) (kI 2))])
 (.cond (.t 10)
 (.seq (.reg [Qa 11 0,
Qa 4 11])
 .ret)
 .skip))
def F33b(e:Nat)(xs:List aw):Option ((Unit) ⊕ (Unit)):=(if(xs.length:Int)<2 then XD (Sum.inl (()))else XD (Sum.inr (())))
theorem F33b_ok{e xs r}(h:F33b e xs=XD r):sK XC 66 1 Ki [] (sM 66 1 (fun s=>∃o1,r=Sum.inr (o1)∧s=⟨[(0,oc (ow 0 e xs)),(1,oc (.fn 34 []))],[ba e xs]⟩) (xQ 66 1 (fun _ _=>False) (fun s=>∃o0,r=Sum.inl o0∧s=⟨[(4,oc (ow 0 e xs))],[ba e xs]⟩)))
 ⟨[(0,oc (ow 0 e xs)),(1,oc (.fn 34 []))],[ba e xs]⟩:=by
 rw[F33b]at h
 unfold Ki
 refine ww ?_
 refine bG h (fun c1 h=>ww ?_) (fun c1 h=>?_)
 ·cases h
  exact eR [XD 0] ⟨_,rfl,rfl⟩
 ·refine ww ?_
  cases h
  exact eM [XD 0] ⟨_,rfl,rfl⟩
def Kh:AC:=(.reg [Qe 5 1])
def F33c(e:Nat)(xs:List aw):Option (Unit):=XD (())
theorem F33c_ok{e xs r}(h:F33c e xs=XD r):sK XC 66 1 Kh [] (sM 66 1 (fun s=>s=⟨[(0,oc (ow 0 e xs)),(1,oc (.fn 34 [])),(5,oI 1)],[ba e xs]⟩) (xQ 66 1 (fun _ _=>False) (fun _=>False)))
 ⟨[(0,oc (ow 0 e xs)),(1,oc (.fn 34 []))],[ba e xs]⟩:=by
 rw[F33c]at h
 unfold Kh
 refine ww ?_
 cases h
 exact eM [XD 0] rfl
def Kg:AC:=(.reg [Qa 12 5,
Qa 13 0,
Qh 14 13,
Qn 15 12 14])
def F33d(e:Nat)(xs:List aw)(k:Int):Option (Unit):=XD (())
theorem F33d_ok{e xs k r}(h:F33d e xs k=XD r):sK XC 66 1 Kg [] (sM 66 1 (fun s=>s=⟨[(0,oc (ow 0 e xs)),(1,oc (.fn 34 [])),(5,oI k),(15,oB (decide (k<(xs.length:Int))))],[ba e xs]⟩) (xQ 66 1 (fun _ _=>False) (fun _=>False)))
 ⟨[(0,oc (ow 0 e xs)),(1,oc (.fn 34 [])),(5,oI k)],[ba e xs]⟩:=by
 rw[F33d]at h
 unfold Kg
 refine ww ?_
 cases h
 exact eM [XD 0] rfl
def J9:AC:=(.reg [Qa 57 5,
Qm 58 57 1,
Qa 5 58])
def F33k(e:Nat)(xs:List aw)(k:Int)(k0:Nat)(vv:List aw)(q:Int):Option (Unit):=XD (())
theorem F33k_ok{e:Nat}{xs:List aw}{k:Int}{k0:Nat}{vv:List aw}{q:Int}(hv:k0+vv.length≤xs.length){r:Unit}(h:F33k e xs k k0 vv q=XD r):sK XC 66 1 J9 [] (sM 66 1 (fun s=>s=⟨[(0,oc (ow 0 e xs)),(1,oc (.fn 34 [])),(5,oI ((XG.wrap (k+1)))),(6,oc (.own 0 e k0 (vv.length) XF)),(7,oI q)],[ba e xs]⟩) (xQ 66 1 (fun _ _=>False) (fun _=>False)))
 ⟨[(0,oc (ow 0 e xs)),(1,oc (.fn 34 [])),(5,oI k),(6,oc (.own 0 e k0 (vv.length) XF)),(7,oI q)],[ba e xs]⟩:=by
 rw[F33k]at h
 unfold J9
 refine ww ?_
 cases h
 have qx:=q1 (hv)
 exact fI [XD 0] rfl
def F27:Option (Unit):=XD (())
def a27:dG:=⟨14,[(.cell 0 (XD 32))],
 (.seq (.reg [zl 0 (.zbox L8) [] []])
 (.seq (.reg [sq 2 (.build QJ [(0,1,(kS ⟨#[80,111,100]⟩)),(1,1,(kS ⟨#[110,115]⟩)),(2,1,(kS ⟨#[119,101,98]⟩))]),
sq 3 (.build L8 [(0,13,(.t 2))]),
sq 1 (.zbox L8),
su (.store 32 (.t 1) (.t 3))])
 (.seq (.reg [Qb 4 13 1,
Qb 5 0 4,
⟨XF,XF,.store 1 (.t 5) (kS ⟨#[110]⟩),[],(.lone [1,4])⟩])
 (.seq (.reg [sq 6 (.build [dI 0,dI 0,dI 0] [(0,1,(kI 100)),(1,1,(kI 50))]),
sq 7 (.build [dI 0,dI 0,dI 0,dI 0] [(1,1,(kI 1)),(2,1,(kI 1)),(3,1,(kI 2))]),
sq 8 (.bslice 4 [(.t 7)]),
sq 9 (.build [dS ⟨#[]⟩,dS ⟨#[]⟩,dI 0,dI 0,dI 0,dI 0,dI 0,dI 0,dN,dN,dN] [(0,1,(kS ⟨#[109,97,105,110]⟩)),(1,1,(kS ⟨#[118,49]⟩)),(2,3,(.t 6)),(8,1,(.t 8))]),
sq 10 (.bslice 11 [(.t 9)]),
Qb 11 13 1,
Qb 12 4 11,
su (.store 1 (.t 12) (.t 10))])
 (.seq (.reg [Qc 13 32 1,
⟨XF,XF,.store 32 (.t 0) (.t 13),[],(.lone [1])⟩])
 .ret)))))⟩
theorem F27_ok{r}(h:F27=XD r):aW XC 27 [] [] (bJ [.agg [dS ((⟨#[80,111,100]⟩:ByteArray)),dS ((⟨#[110,115]⟩:ByteArray)),dS ((⟨#[119,101,98]⟩:ByteArray)),dI 0,dI 0,dI 0,dI 0,dB XH,dI 0,dM (([]:List Label).map cR),dM (([]:List mw).map cP),dM (([]:List ByteArray).map eS),dM (([]:List iV).map bU),dS ((⟨#[110]⟩:ByteArray)),dI 0,dI 0,dI 0,.own 0 0 0 (([(⟨(⟨#[109,97,105,110]⟩:ByteArray),(⟨#[118,49]⟩:ByteArray),(⟨100,50,0⟩:aD),(⟨0,0,0⟩:aD),[(⟨0,1,1,2⟩:Probe)],[],[]⟩:aP)]).length) XF,dM (([]:List dJ).map bV),dM (([]:List jA).map dv),dM (([]:List kF).map dY),dM (([]:List ig).map cV),dM (([]:List ic).map cU),dI 0,dB XH,dI 0,dI 0,dI 0,dM (([]:List ag).map aC),dI 0,dS ((⟨#[]⟩:ByteArray)),dS ((⟨#[]⟩:ByteArray))]]) [Ar 0 ([(⟨(⟨#[109,97,105,110]⟩:ByteArray),(⟨#[118,49]⟩:ByteArray),(⟨100,50,0⟩:aD),(⟨0,0,0⟩:aD),[(⟨0,1,1,2⟩:Probe)],[],[]⟩:aP)])]:=by
 rw[F27]at h
 refine zc a27 (by kernel_rfl) rfl (ww ?_)
 refine tB (enc:=el) (ys:=[(⟨0,1,1,2⟩:Probe)]) rfl rfl (ww ?_)
 refine tB (enc:=bo) (ys:=[(⟨(⟨#[109,97,105,110]⟩:ByteArray),(⟨#[118,49]⟩:ByteArray),(⟨100,50,0⟩:aD),(⟨0,0,0⟩:aD),[(⟨0,1,1,2⟩:Probe)],[],[]⟩:aP)]) rfl rfl (ww ?_)
 cases h
 exact eF [XD 3]
def Jp:AC:=(.reg [Qa 6 0,
Qb 7 0 6,
Qb 8 0 7,
Qb 9 25 8,
Qd 10 9,
Qh 11 10,
Qe 12 0])
def F45b(e1:Nat)(b0:aj)(pods:List au):Option (Unit):=XD (())
theorem F45b_ok{e1 b0 pods r}(h:F45b e1 b0 pods=XD r):sK XC 73 2 Jp [] (sM 73 2 (fun s=>s=⟨[(0,Pz 0),(2,oc (dN)),(10,oc (ow 1 e1 pods)),(11,oI (pods.length:Int)),(12,oI 0)],[xb (aA b0 (ow 1 e1 pods)),ai e1 pods]⟩) (xQ 73 2 (fun _ _=>False) (fun _=>False)))
 ⟨[(0,Pz 0),(2,oc (dN))],[xb (aA b0 (ow 1 e1 pods)),ai e1 pods]⟩:=by
 rw[F45b]at h
 unfold Jp
 refine ww ?_
 cases h
 exact eM i2 rfl
def Jj:AC:=(.reg [Qn 13 12 11])
def F45h(e1:Nat)(b0:aj)(pods:List au)(ls:List au)(i:Int):Option (Unit):=XD (())
theorem F45h_ok{e1 b0 pods ls i r}(h:F45h e1 b0 pods ls i=XD r):sK XC 73 2 Jj [] (sM 73 2 (fun s=>s=⟨[(0,Pz 0),(2,oc (ow 2 0 ls)),(10,oc (ow 1 e1 pods)),(11,oI (pods.length:Int)),(12,oI i),(13,oB (decide (i<(pods.length:Int))))],[xb (cj b0),ai e1 pods,ai 0 ls]⟩) (xQ 73 2 (fun _ _=>False) (fun _=>False)))
 ⟨[(0,Pz 0),(2,oc (ow 2 0 ls)),(10,oc (ow 1 e1 pods)),(11,oI (pods.length:Int)),(12,oI i)],[xb (cj b0),ai e1 pods,ai 0 ls]⟩:=by
 rw[F45h]at h
 unfold Jj
 refine ww ?_
 cases h
 exact eM i3 rfl
def Jo:AC:=(.reg [Qp 14 36 10 12,
Qc 15 36 14,
sq 4 (.zbox Fk),
su (.store 36 (.t 4) (.t 15))])
def F45c(e1:Nat)(b0:aj)(pods:List au)(ls:List au)(i:Int):Option (au):=(cI pods i).bind fun y1=>XD y1
theorem F45c_ok{e1 b0 pods ls i r}(h:F45c e1 b0 pods ls i=XD r):sK XC 73 2 Jo [] (sM 73 2 (fun s=>s=⟨[(0,Pz 0),(2,oc (ow 2 0 ls)),(4,Pz 3),(10,oc (ow 1 e1 pods)),(11,oI (pods.length:Int)),(12,oI i)],[xb (cj b0),ai e1 pods,ai 0 ls,xb [dS ((r).an.ak.bY),dS ((r).an.ak.bE),dS ((r).an.ak.aV),dI ((r).an.ak.jH),dI ((r).an.ak.cE),dI ((r).an.ak.bA),dI ((r).an.ak.cF),dB ((r).an.ak.bP),dI ((r).an.ak.bz),dM (((r).an.ak.cS).map cR),dM (((r).an.ak.cZ).map cP),dM (((r).an.ak.bB).map eS),dM (((r).an.ak.b9).map bU),dS ((r).an.Spec.Node),dI ((r).an.Spec.dF),dI ((r).an.Spec.ca),dI ((r).an.Spec.jB),dM (((r).an.Spec.ad).map bo),dM (((r).an.Spec.dg).map bV),dM (((r).an.Spec.eH).map dv),dM (((r).an.Spec.fv).map dY),dM (((r).an.Spec.ij).map cV),dM (((r).an.Spec.dz).map cU),dI ((r).an.ae.bC),dB ((r).an.ae.bd),dI ((r).an.ae.bf),dI ((r).an.ae.Started),dI ((r).an.ae.bu),.d (.w ((r).an.ae.ad)),dI ((r).an.ae.bS),dS ((r).an.ae.bg),dS ((r).an.ae.b7),.d (.w ((r).aK)),.d (.w ((r).aq)),dB ((r).bh),dI ((r).bK)]]⟩) (xQ 73 2 (fun _ _=>False) (fun _=>False)))
 ⟨[(0,Pz 0),(2,oc (ow 2 0 ls)),(10,oc (ow 1 e1 pods)),(11,oI (pods.length:Int)),(12,oI i)],[xb (cj b0),ai e1 pods,ai 0 ls]⟩:=by
 rw[F45c]at h
 unfold Jo
 refine ww ?_
 obtain⟨y1,hy1,h⟩:=bi h
 refine tO (enc:=aS) (xs:=pods) rfl rfl rfl hy1 (ww ?_)
 refine cD.rd (aQ hy1).2.1 (ww ?_)
 cases h
 have qx:=q1 (bc hy1)
 exact fI i4 rfl
def E7:AC:=(.reg [Qa 68 0,
Qa 69 2,
Qb 70 0 68,
Qb 71 0 70,
Qb 72 25 71,
⟨XF,XF,.store 1 (.t 72) (.t 69),[],(.lone [68,70,71])⟩])
def F45z(e1:Nat)(b0:aj)(pods:List au)(ls:List au):Option (Unit):=XD (())
theorem F45z_ok{e1 b0 pods ls r}(h:F45z e1 b0 pods ls=XD r):sK XC 73 2 E7 [] (sM 73 2 (fun s=>s=⟨[(0,Pz 0)],[xb (aA b0 (ow 2 0 ls)),ai e1 pods,ai 0 ls]⟩) (xQ 73 2 (fun _ _=>False) (fun _=>False)))
 ⟨[(0,Pz 0),(2,oc (ow 2 0 ls))],[xb (cj b0),ai e1 pods,ai 0 ls]⟩:=by
 rw[F45z]at h
 unfold E7
 refine ww ?_
 cases h
 exact eM i3 rfl
def JL:AC:=(.reg [zl 3 (.box (.t 1)) [] []])
def F41a(e1:Nat)(b0:aj)(pods:List au)(v:aN):Option (Unit):=XD (())
theorem F41a_ok{e1 b0 pods v r}(h:F41a e1 b0 pods v=XD r):sK XC 83 2 JL [] (sM 83 2 (fun s=>s=⟨[(0,Pz 0),(3,Pz 2)],[xb (aA b0 (ow 1 e1 pods)),ai e1 pods,xb (aZ v)]⟩) (xQ 83 2 (fun _ _=>False) (fun _=>False)))
 ⟨[(0,Pz 0),(1,.one (.agg (aZ v)))],[xb (aA b0 (ow 1 e1 pods)),ai e1 pods]⟩:=by
 rw[F41a]at h
 unfold JL
 refine ww ?_
 cases h
 exact eM i3 rfl
def JI:AC:=(.reg [Qa 28 0,
Qb 29 0 28,
Qb 30 0 29,
Qb 31 25 30,
Qd 32 31,
Qa 33 4,
Qp 34 36 32 33,
Qa 6 34])
def F41d(e1:Nat)(b0:aj)(pods:List au)(v:aN)(k:Int):Option (Unit):=(cI pods k).bind fun y1=>XD (())
theorem F41d_ok{e1 b0 pods v k r}(h:F41d e1 b0 pods v k=XD r):sK XC 83 2 JI [] (sM 83 2 (fun s=>s=⟨[(0,Pz 0),(3,Pz 2),(6,oc (.pe 1 e1 k.toNat 0))],[xb (aA b0 (ow 1 e1 pods)),ai e1 pods,xb (aZ v)]⟩) (xQ 83 2 (fun _ _=>False) (fun _=>False)))
 ⟨[(0,Pz 0),(3,Pz 2),(4,oI k)],[xb (aA b0 (ow 1 e1 pods)),ai e1 pods,xb (aZ v)]⟩:=by
 rw[F41d]at h
 unfold JI
 refine ww ?_
 obtain⟨y1,hy1,h⟩:=bi h
 refine tO (enc:=aS) (xs:=pods) rfl rfl rfl hy1 (ww ?_)
 cases h
 have qx:=q1 (bc hy1)
 exact fI i3 rfl
def Jr:AC:=(.reg [Qn 13 12 11])
def F44h(e1:Nat)(b0:aj)(pods:List au)(n:Int)(i:Int):Option (Unit):=XD (())
theorem F44h_ok{e1 b0 pods n i r}(h:F44h e1 b0 pods n i=XD r):sK XC 43 2 Jr [] (sM 43 2 (fun s=>s=⟨[(0,Pz 0),(11,oI n),(12,oI i),(13,oB (decide (i<n)))],[xb (aA b0 (ow 1 e1 pods)),ai e1 pods]⟩) (xQ 43 2 (fun _ _=>False) (fun _=>False)))
 ⟨[(0,Pz 0),(11,oI n),(12,oI i)],[xb (aA b0 (ow 1 e1 pods)),ai e1 pods]⟩:=by
 rw[F44h]at h
 unfold Jr
 refine ww ?_
 cases h
 exact eM i2 rfl
def JD:AC:=(.reg [sq 5 (.mv kN)])
def F43d(e1:Nat)(b0:aj)(pods:List au):Option (Unit):=XD (())
theorem F43d_ok{e1 b0 pods r}(h:F43d e1 b0 pods=XD r):sK XC 118 2 JD [] (sM 118 2 (fun s=>s=⟨[(0,Pz 0),(4,oc (dN)),(5,oc (dN))],[xb (aA b0 (ow 1 e1 pods)),ai e1 pods]⟩) (xQ 118 2 (fun _ _=>False) (fun _=>False)))
 ⟨[(0,Pz 0),(4,oc (dN))],[xb (aA b0 (ow 1 e1 pods)),ai e1 pods]⟩:=by
 rw[F43d]at h
 unfold JD
 refine ww ?_
 cases h
 exact eM i2 rfl
def Jw:AC:=(.reg [Qm 117 76 1,
Qa 76 117])
def F43z(e1:Nat)(b0:aj)(pods:List au)(ks:List ByteArray)(i:Int):Option (Unit):=XD (())
theorem F43z_ok{e1 b0 pods ks i r}(h:F43z e1 b0 pods ks i=XD r):sK XC 118 2 Jw [] (sM 118 2 (fun s=>s=⟨[(0,Pz 0),(74,oc (ow 2 0 ks)),(75,oI (ks.length:Int)),(76,oI ((XG.wrap (i+1))))],[xb (aA b0 (ow 1 e1 pods)),ai e1 pods,iS 0 ks]⟩) (xQ 118 2 (fun _ _=>False) (fun _=>False)))
 ⟨[(0,Pz 0),(74,oc (ow 2 0 ks)),(75,oI (ks.length:Int)),(76,oI i)],[xb (aA b0 (ow 1 e1 pods)),ai e1 pods,iS 0 ks]⟩:=by
 rw[F43z]at h
 unfold Jw
 refine ww ?_
 cases h
 exact eM i3 rfl
def JA:AC:=(.reg [Qp 78 1 74 76,
Qd 79 78,
Qa 9 79])
def F43g(e1:Nat)(b0:aj)(pods:List au)(ks:List ByteArray)(i:Int):Option (ByteArray):=(cI ks i).bind fun y1=>XD y1
theorem F43g_ok{e1 b0 pods ks i r}(h:F43g e1 b0 pods ks i=XD r):sK XC 118 2 JA [] (sM 118 2 (fun s=>s=⟨[(0,Pz 0),(9,oS r),(74,oc (ow 2 0 ks)),(75,oI (ks.length:Int)),(76,oI i)],[xb (aA b0 (ow 1 e1 pods)),ai e1 pods,iS 0 ks]⟩) (xQ 118 2 (fun _ _=>False) (fun _=>False)))
 ⟨[(0,Pz 0),(74,oc (ow 2 0 ks)),(75,oI (ks.length:Int)),(76,oI i)],[xb (aA b0 (ow 1 e1 pods)),ai e1 pods,iS 0 ks]⟩:=by
 rw[F43g]at h
 unfold JA
 refine ww ?_
 obtain⟨y1,hy1,h⟩:=bi h
 refine tO (enc:=eS) (xs:=ks) rfl rfl rfl hy1 (ww ?_)
 refine cD.rd (aQ hy1).2.1 (ww ?_)
 cases h
 have qx:=q1 (bc hy1)
 exact fI i3 rfl
def wD:AC:=(.reg [Qa 16 0,
Qb 17 0 16,
Qb 18 0 17,
Qb 19 24 18,
Qd 20 19,
sq 21 (.build [dI 0,dB XH,dI 0,dI 0,dI 0,dN,dI 0,dS ⟨#[]⟩,dS ⟨#[]⟩] [(3,1,(.t 20))]),
Qb 22 23 5,
su (.store 9 (.t 22) (.t 21))])
def F30075c(e1:Nat)(b0:aj)(pods:List au)(i:Int)(v:an)(n:Int)(su:aD):Option (Unit):=XD (())
theorem F30075c_ok{e1 b0 pods i v n su r}(h:F30075c e1 b0 pods i v n su=XD r):sK XC 128 2 wD [] (sM 128 2 (fun s=>s=⟨[(0,Pz 0),(1,oI i),(5,Pz 2),(6,oI n),(7,Pz 3)],[xb (aA b0 (ow 1 e1 pods)),ai e1 pods,xb (qw v (dI 0) (dB XH) (dI 0) (dI b0.ah.cl) (dI 0) dN (dI 0) (dS ((⟨#[]⟩:ByteArray))) (dS ((⟨#[]⟩:ByteArray)))),xb (b6 su)]⟩) (xQ 128 2 (fun _ _=>False) (fun _=>False)))
 ⟨[(0,Pz 0),(1,oI i),(5,Pz 2),(6,oI n),(7,Pz 3)],[xb (aA b0 (ow 1 e1 pods)),ai e1 pods,xb (jD v),xb (b6 su)]⟩:=by
 rw[F30075c]at h
 unfold wD
 refine ww ?_
 cases h
 exact eM i4 rfl
def wC:AC:=(.reg [Qc 23 32 5,
sq 24 (.build Fk [(0,32,(.t 23))]),
sq 8 (.zbox Fk),
su (.store 36 (.t 8) (.t 24))])
def F30075d(e1:Nat)(b0:aj)(pods:List au)(i:Int)(v:an)(n:Int)(su:aD):Option (Unit):=XD (())
theorem F30075d_ok{e1 b0 pods i v n su r}(h:F30075d e1 b0 pods i v n su=XD r):sK XC 128 2 wC [] (sM 128 2 (fun s=>s=⟨[(0,Pz 0),(1,oI i),(5,Pz 2),(6,oI n),(7,Pz 3),(8,Pz 4)],[xb (aA b0 (ow 1 e1 pods)),ai e1 pods,xb (qw v (dI 0) (dB XH) (dI 0) (dI b0.ah.cl) (dI 0) dN (dI 0) (dS ((⟨#[]⟩:ByteArray))) (dS ((⟨#[]⟩:ByteArray)))),xb (b6 su),xb [dS v.ak.bY,dS v.ak.bE,dS v.ak.aV,dI v.ak.jH,dI v.ak.cE,dI v.ak.bA,dI v.ak.cF,dB v.ak.bP,dI v.ak.bz,dM (v.ak.cS.map cR),dM (v.ak.cZ.map cP),dM (v.ak.bB.map eS),dM (v.ak.b9.map bU),dS v.Spec.Node,dI v.Spec.dF,dI v.Spec.ca,dI v.Spec.jB,dM (v.Spec.ad.map bo),dM (v.Spec.dg.map bV),dM (v.Spec.eH.map dv),dM (v.Spec.fv.map dY),dM (v.Spec.ij.map cV),dM (v.Spec.dz.map cU),dI 0,dB XH,dI 0,dI b0.ah.cl,dI 0,dN,dI 0,dS ((⟨#[]⟩:ByteArray)),dS ((⟨#[]⟩:ByteArray)),dN,dN,dB XH,dI 0]]⟩) (xQ 128 2 (fun _ _=>False) (fun _=>False)))
 ⟨[(0,Pz 0),(1,oI i),(5,Pz 2),(6,oI n),(7,Pz 3)],[xb (aA b0 (ow 1 e1 pods)),ai e1 pods,xb (qw v (dI 0) (dB XH) (dI 0) (dI b0.ah.cl) (dI 0) dN (dI 0) (dS ((⟨#[]⟩:ByteArray))) (dS ((⟨#[]⟩:ByteArray)))),xb (b6 su)]⟩:=by
 rw[F30075d]at h
 unfold wC
 refine ww ?_
 cases h
 exact eM i5 rfl
def Km:AC:=(.reg [Qg 2 0,
Qg 3 1,
sq 4 (.zbox zQ)])
def F10a(a:ah)(v:aN):Option (Unit):=XD (())
theorem F10a_ok{a v r}(h:F10a a v=XD r):sK XC 86 0 Km [] (sM 86 0 (fun s=>s=⟨[(2,Pz 0),(3,Pz 1),(4,Pz 2)],[xb (dy a),xb (aZ v),xb gx]⟩) (xQ 86 0 (fun _ _=>False) (fun _=>False)))
 ⟨[(0,.one (.agg (dy a))),(1,.one (.agg (aZ v)))],[]⟩:=by
 rw[F10a]at h
 unfold Km
 refine ww ?_
 cases h
 exact eM i3 rfl
def Kk:AC:=(.reg [Qb 10 0 3,
Qd 11 10])
def F10k(e1:Nat)(b0:aj)(pods:List au)(v:aN):Option (Unit):=XD (())
theorem F10k_ok{e1 b0 pods v r}(h:F10k e1 b0 pods v=XD r):sK XC 86 0 Kk [] (sM 86 0 (fun s=>s=⟨[(3,Pz 0),(4,Pz 1),(5,Pz 2),(11,oI v.bY)],[xb (aZ v),xb gx,xb (aA b0 (ow 3 0 pods)),ai 0 pods]⟩) (xQ 86 0 (fun _ _=>False) (fun _=>False)))
 ⟨[(3,Pz 0),(4,Pz 1),(5,Pz 2)],[xb (aZ v),xb gx,xb (aA b0 (ow 3 e1 pods)),ai e1 pods]⟩:=by
 rw[F10k]at h
 unfold Kk
 refine ww ?_
 cases h
 exact eM i4 rfl
def Dz:AC:=(.reg [Qr 28 11 2,
Qa 27 28])
def F10t2(e1:Nat)(b0:aj)(pods:List au)(v:aN)(kd:Int):Option (Unit):=XD (())
theorem F10t2_ok{e1 b0 pods v kd r}(h:F10t2 e1 b0 pods v kd=XD r):sK XC 86 0 Dz [] (sM 86 0 (fun s=>s=⟨[(3,Pz 0),(4,Pz 1),(5,Pz 2),(11,oI kd),(27,oB (decide (kd=2)))],[xb (aZ v),xb gx,xb (aA b0 (ow 3 0 pods)),ai 0 pods]⟩) (xQ 86 0 (fun _ _=>False) (fun _=>False)))
 ⟨[(3,Pz 0),(4,Pz 1),(5,Pz 2),(11,oI kd)],[xb (aZ v),xb gx,xb (aA b0 (ow 3 e1 pods)),ai e1 pods]⟩:=by
 rw[F10t2]at h
 unfold Dz
 refine ww ?_
 cases h
 exact eM i4 rfl
def zE:AC:=(.sem (.seq (.reg [Qr 57 11 4,
Qa 56 57])
 (.cond (.t 56)
 .skip
 (.reg [Qr 58 11 5,
Qa 56 58]))))
def F10t45(e1:Nat)(b0:aj)(pods:List au)(v:aN)(kd:Int):Option (Bool):=(((if kd=4 then XD (decide (kd=4))else XD (decide (kd=5)))).bind fun o1=>XD o1)
theorem F10t45_ok{e1 b0 pods v kd r}(h:F10t45 e1 b0 pods v kd=XD r):sK XC 86 0 zE [] (sM 86 0 (fun s=>s=⟨[(3,Pz 0),(4,Pz 1),(5,Pz 2),(11,oI kd),(56,oB r)],[xb (aZ v),xb gx,xb (aA b0 (ow 3 0 pods)),ai 0 pods]⟩) (xQ 86 0 (fun _ _=>False) (fun _=>False)))
 ⟨[(3,Pz 0),(4,Pz 1),(5,Pz 2),(11,oI kd)],[xb (aZ v),xb gx,xb (aA b0 (ow 3 e1 pods)),ai e1 pods]⟩:=by
 rw[F10t45]at h
 unfold zE
 refine ww ?_
 obtain⟨o1,ho,h⟩:=bi h
 refine bD (fun s=>s=⟨[(3,Pz 0),(4,Pz 1),(5,Pz 2),(11,oI kd),(56,oB o1)],[xb (aZ v),xb gx,xb (aA b0 (ow 3 0 pods)),ai 0 pods]⟩) ?_ ?_
 ·have h:=ho
  refine ww ?_
  refine bG h (fun c2 h=>ww ?_) (fun c2 h=>?_)
  ·cases h
   exact eM i4 rfl
  ·refine ww ?_
   cases h
   exact eM i4 rfl
 ·rintro _ rfl
  refine ww ?_
  cases h
  exact eM i4 rfl
def DH:AC:=(.reg [Qa 59 5,
Qc 60 37 3])
def F10at(e1:Nat)(b0:aj)(pods:List au)(v:aN):Option (Unit):=XD (())
theorem F10at_ok{e1 b0 pods v r}(h:F10at e1 b0 pods v=XD r):sK XC 86 0 DH [] (sM 86 0 (fun s=>s=⟨[(3,Pz 0),(4,Pz 1),(5,Pz 2),(59,Pz 2),(60,.one (.agg (aZ v)))],[xb (aZ v),xb gx,xb (aA b0 (ow 3 0 pods)),ai 0 pods]⟩) (xQ 86 0 (fun _ _=>False) (fun _=>False)))
 ⟨[(3,Pz 0),(4,Pz 1),(5,Pz 2)],[xb (aZ v),xb gx,xb (aA b0 (ow 3 e1 pods)),ai e1 pods]⟩:=by
 rw[F10at]at h
 unfold DH
 refine ww ?_
 cases h
 exact eM i4 rfl
def Dw:AC:=(.reg [Qr 71 11 7,
Qa 70 71])
def F10t7(e1:Nat)(b0:aj)(pods:List au)(v:aN)(kd:Int):Option (Unit):=XD (())
theorem F10t7_ok{e1 b0 pods v kd r}(h:F10t7 e1 b0 pods v kd=XD r):sK XC 86 0 Dw [] (sM 86 0 (fun s=>s=⟨[(3,Pz 0),(4,Pz 1),(5,Pz 2),(11,oI kd),(70,oB (decide (kd=7)))],[xb (aZ v),xb gx,xb (aA b0 (ow 3 0 pods)),ai 0 pods]⟩) (xQ 86 0 (fun _ _=>False) (fun _=>False)))
 ⟨[(3,Pz 0),(4,Pz 1),(5,Pz 2),(11,oI kd)],[xb (aZ v),xb gx,xb (aA b0 (ow 3 e1 pods)),ai e1 pods]⟩:=by
 rw[F10t7]at h
 unfold Dw
 refine ww ?_
 cases h
 exact eM i4 rfl
def F28:Option (Unit):=XD (())
def a28:dG:=⟨2,[(.cell 0 (XD 37))],
 (.seq (.reg [zl 0 (.zbox Ol) [] []])
 (.seq (.reg [sq 1 (.build Ol [(0,1,(kI 5)),(1,1,(kI 1)),(2,1,(kS ⟨#[80,111,100,47,110,115,47,119,101,98]⟩)),(3,1,(kS ⟨#[109,97,105,110]⟩))]),
su (.store 37 (.t 0) (.t 1))])
 .ret))⟩
theorem F28_ok{r}(h:F28=XD r):aW XC 28 [] [] (bJ [.agg [dI 5,dI 1,dS ((⟨#[80,111,100,47,110,115,47,119,101,98]⟩:ByteArray)),dS ((⟨#[109,97,105,110]⟩:ByteArray)),dB XH,dS ((⟨#[]⟩:ByteArray)),dS ((⟨#[]⟩:ByteArray)),dS ((⟨#[]⟩:ByteArray)),dI 0,dI 0,dI 0,dI 0,dB XH,dI 0,dM (([]:List Label).map cR),dM (([]:List mw).map cP),dM (([]:List ByteArray).map eS),dM (([]:List iV).map bU),dS ((⟨#[]⟩:ByteArray)),dI 0,dI 0,dI 0,dM (([]:List aP).map bo),dM (([]:List dJ).map bV),dM (([]:List jA).map dv),dM (([]:List kF).map dY),dM (([]:List ig).map cV),dM (([]:List ic).map cU),dI 0,dB XH,dI 0,dI 0,dI 0,dM (([]:List ag).map aC),dI 0,dS ((⟨#[]⟩:ByteArray)),dS ((⟨#[]⟩:ByteArray))]]) []:=by
 rw[F28]at h
 refine zc a28 (by kernel_rfl) rfl (ww ?_)
 cases h
 exact eF []
end Go.Proofs.YtojbebejhgbfeaaGreat
