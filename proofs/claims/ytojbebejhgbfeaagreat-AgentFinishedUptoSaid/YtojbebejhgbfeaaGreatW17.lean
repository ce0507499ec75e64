/- Each Go function as a function over typed data, and its walk. -/
import Derived.Test.YtojbebejhgbfeaaGreatW0
import Derived.Test.YtojbebejhgbfeaaGreatW4
import Derived.Test.YtojbebejhgbfeaaGreatW6
import Derived.Test.YtojbebejhgbfeaaGreatW13
import Derived.Test.YtojbebejhgbfeaaGreatW15
open Option renaming some->XC,none->XD
open Go.IntKind renaming i64->XF
namespace Go.Proofs.YtojbebejhgbfeaaGreat
open Go Go.Fw Go.Shelf
set_option maxRecDepth 100000
set_option maxHeartbeats 4000000
set_option linter.unusedSimpArgs false
set_option linter.unusedVariables false
def F195i(x0:(List Entry)):Option ((List Entry)):=(F221 x0 ((x0.length:Int))).bind fun t1=>XC t1
def F195(x0:(List Entry)):Option ((List Entry)):=(F195i x0).bind fun r=>if r.length=x0.length then XC r else XD
theorem F195_len0{x0:(List Entry)}{r:(List Entry)}(h:F195 x0=XC r):r.length=x0.length:=(bp h).2
def a195:dG:=⟨9,[],
 (.reg [Qa 4 0,
Qa 5 0,
Qh 6 5,
Qa 7 1,
zl 8 (.call 221 [(.t 4),(.t 6),(.t 7)]) [] [5]])⟩
theorem F195_ok{x0 r}{e0:Nat}(h:F195 x0=XC r):aW Tryz.prog 195 [.c (ow 0 e0 x0),.c (.fn 196 [])] [cA e0 x0] (bJ []) [cA e0 r]:=by
 replace h:=(bp h).1
 rw[F195i]at h
 refine zc a195 (by kernel_rfl) rfl (ww ?_)
 obtain⟨t1,ht1,h⟩:=bi h
 refine cN [0] (F221_ok (e0:=e0) ht1) ⟨⟨rfl,trivial⟩,trivial⟩ ?_
 refine ww ?_
 cases h
 have qx:=q1 (F221_len0 ht1)
 exact tg [XC 0]
def F134_l1(x1:(List Int)):List gZ→Nat→(List Entry)→Option ((List Entry))
 |[],o1_1,o1_0=>XC o1_0
 |xo1::xs,o1_1,o1_0=>(F74 xo1.ak).bind fun t3=>(((if(o1_1:Int)<(x1.length:Int)then(cI x1 ((o1_1:Int))).bind fun y6=>(F133 y6).bind fun t7=>XC ((if 1000000000000000<(if y6<0 then 0 else y6)then 1000000000000000 else(if y6<0 then 0 else y6)))else XC 0)).bind fun o4=>(F83 xo1.Spec).bind fun t8=>(jz o1_0 ([(⟨t3,xo1.Spec.dF,o4,(XF.wrap (o4-((t8).aG)))⟩:Entry)])).bind fun a9=>F134_l1 x1 xs (o1_1+1) a9)
def F134(x0:(List gZ))(x1:(List Int)):Option ((List Entry)):=(((ck (0≤x0.length∧x0.length≤4294967290)).bind fun u10=>F134_l1 x1 x0 0 ([])).bind fun o1=>(F195 o1).bind fun t11=>XC t11)
def a134:dG:=⟨49,[(.tmp 4)],
 (.seq (.reg [sq 4 (.mv kN)])
 (.seq (.reg [sq 5 (.mv kN)])
 (.seq (.seq (.reg [Qa 9 0,
Qh 10 9,
Qe 11 0])
 (.sem (.block 0 (.loop (.seq (.reg [Qn 12 11 10])
 (.seq (.cond (.t 12)
 .skip
 (.exit 0))
 (.seq (.block 1 (.seq (.reg [Qa 13 11,
Qp 14 32 9 11,
Qc 15 32 14,
sq 7 (.zbox L8),
Qa 6 13,
su (.store 32 (.t 7) (.t 15))])
 (.seq (.regd [Qb 16 0 7,
sd 17 (.load (XC 13) (.t 16)) [0],
zn 18 (.call 74 [(.t 17)]) [0,1] [0,1],
Qb 19 13 7,
sd 20 (.fieldA 1 (.t 19)) [3],
sd 21 (.load XD (.t 20)) [3,4],
sd 22 (.build [dS ⟨#[]⟩,dI 0,dI 0,dI 0] [(0,1,(.t 18)),(1,1,(.t 21))]) [0,1,2,3,4,5],
sq 8 (.zbox [dS ⟨#[]⟩,dI 0,dI 0,dI 0]),
⟨XD,XD,.store 4 (.t 8) (.t 22),[0,1,2,3,4,5,6,7],(.lone [])⟩])
 (.seq (.sem (.seq (.reg [Qa 23 6,
Qa 24 1,
Qh 25 24,
Qn 26 23 25])
 (.cond (.t 26)
 (.reg [Qa 27 1,
Qa 28 6,
Qp 29 1 27 28,
Qd 30 29,
Qk 31 133 30,
Qb 32 2 8,
su (.store 1 (.t 32) (.t 31))])
 .skip)))
 (.seq (.regd [Qb 33 2 8,
sd 34 (.load XD (.t 33)) [0],
Qb 35 13 7,
sd 36 (.load (XC 10) (.t 35)) [2],
zl 37 (.call 83 [(.t 36)]) [2,3] [8,33],
sd 38 (.field 1 XD (.t 37)) [2,3,4],
sd 39 (.bin .sub (.t 34) (.t 38)) [0,1,2,3,4,5],
sd 40 (.fieldA 3 (.t 8)) [0,1,2,3,4,5,6],
⟨XD,XD,.store 1 (.t 40) (.t 39),[0,1,2,3,4,5,6,7],(.lone [])⟩])
 (.reg [Qa 41 5,
Qc 42 4 8,
sq 43 (.bslice 4 [(.t 42)]),
sq 44 (.app 4 40 (.t 41) (.t 43)),
Qa 5 44]))))))
 (.reg [Qm 45 11 1,
Qa 11 45]))))))))
 (.seq (.reg [Qa 46 5,
zl 47 (.call 195 [(.t 46),(.f 196)]) [] []])
 (.seq (.reg [Qa 48 5,
Qa 4 48])
 .ret)))))⟩
theorem F134_ok{x0 x1 r}(h:F134 x0 x1=XC r):aW Tryz.prog 134 [.c (dM (x0.map ja)),.c (dM (x1.map eI))] [] (bJ [.c (ow 0 0 r)]) [cA 0 r]:=by
 rw[F134]at h
 refine zc a134 (by kernel_rfl) rfl (ww ?_)
 obtain⟨o1,ho,h⟩:=bi h
 refine bD (fun s=>s=⟨[(5,oc (ow 0 0 o1))],[cA 0 o1]⟩) ?_ ?_
 ·have h:=ho
  obtain⟨_,hk,h⟩:=bi h
  have hk:=cr hk
  refine ww ?_
  refine bL (fun j s=>∃(o1_1:Nat) (o1_0:List Entry),(o1_1≤x0.length∧j=x0.length-o1_1)∧s=⟨[(1,oM (x1.map eI)),(5,oc (ow 0 0 o1_0)),(9,oM (x0.map ja)),(10,oI (x0.length:Int)),(11,oI (o1_1:Int))],[cA 0 o1_0]⟩∧F134_l1 x1 (x0.drop o1_1) o1_1 o1_0=XC o1) (x0.length-0) [XD] ⟨0,[],⟨hk.1,rfl⟩,rfl,h⟩ ?_
  rintro _ _ ⟨o1_1,o1_0,⟨hi,rfl⟩,rfl,h⟩
  refine ww ?_
  refine dq (fun c2=>?_) (fun c2=>?_)
  ·obtain⟨xo1,hxo1,hd⟩:=cW (show(o1_1:Int)<(x0.length:Int)from c2)
   rw[hd,F134_l1]at h
   refine ww ?_
   refine bI (enc:=ja) (xs:=x0) rfl rfl hxo1 rfl (ww ?_)
   obtain⟨t3,ht3,h⟩:=bi h
   refine cN [] (F74_ok ht3) trivial (ww ?_)
   refine iu (by simp[fE,gO,cH]) (ww ?_)
   obtain⟨o4,ho,h⟩:=bi h
   refine bD (fun s=>s=⟨[(1,oM (x1.map eI)),(5,oc (ow 0 0 o1_0)),(7,Pz 1),(8,Pz 2),(9,oM (x0.map ja)),(10,oI (x0.length:Int)),(11,oI (o1_1:Int))],[cA 0 o1_0,xb (BD xo1),xb [dS t3,dI xo1.Spec.dF,dI o4,dI 0]]⟩) ?_ ?_
   ·have h:=ho
    refine ww ?_
    refine bG h (fun c5 h=>ww ?_) (fun c5 h=>ww ?_)
    ·obtain⟨y6,hy6,h⟩:=bi h
     refine bI (enc:=eI) (xs:=x1) rfl rfl hy6 rfl (ww ?_)
     obtain⟨t7,ht7,h⟩:=bi h
     refine cN [] (F133_ok ht7) trivial (ww ?_)
     cases h
     exact eM i3 rfl
    cases h
    exact eM i3 rfl
   rintro _ rfl
   refine ww ?_
   obtain⟨t8,ht8,h⟩:=bi h
   refine cN [] (F83_ok ht8) trivial (ww ?_)
   refine tB (enc:=ft) (ys:=[(⟨t3,xo1.Spec.dF,o4,(XF.wrap (o4-((t8).aG)))⟩:Entry)]) rfl rfl (ww ?_)
   obtain⟨a9,ha9,h⟩:=bi h
   refine tA (enc:=ft) (xs:=o1_0) rfl rfl rfl ha9 (ww ?_)
   rw[cL (by omega)]
   exact jo (x0.length-(o1_1+1)) [XC 0] ⟨o1_1+1,a9,⟨by omega,rfl⟩,rfl,h⟩ (by omega)
  rw[cX (show¬((o1_1:Int)<(x0.length:Int))from c2),F134_l1]at h
  refine ww ?_
  cases h
  exact eM [XC 0] rfl
 rintro _ rfl
 refine ww ?_
 obtain⟨t11,ht11,h⟩:=bi h
 refine cN [0] (F195_ok (e0:=0) ht11) ⟨⟨rfl,trivial⟩,trivial⟩ ?_
 refine ww ?_
 cases h
 have qx:=q1 (F195_len0 ht11)
 exact tg [XC 0]
def F84_l4(x3:Int):List Entry→Nat→Int→(List ByteArray)→Option ((List ByteArray))
 |[],o4_2,o4_0,o4_1=>XC o4_1
 |xo4::xs,o4_2,o4_0,o4_1=>(if o4_0≤(if 1000000000000000<(if x3<0 then 0 else x3)then 1000000000000000 else(if x3<0 then 0 else x3))then XC o4_1 else(jz o4_1 ([xo4.key])).bind fun a7=>F84_l4 x3 xs (o4_2+1) ((XF.wrap (o4_0-xo4.tC))) a7)
def F84(x0:(List gZ))(x1:(List Int))(x2:Int)(x3:Int):Option ((List ByteArray)):=(F133 x2).bind fun t1=>(F133 x3).bind fun t2=>(F134 x0 x1).bind fun t3=>(((ck (0≤t3.length∧t3.length≤4294967290)).bind fun u8=>F84_l4 x3 t3 0 ((if 1000000000000000<(if x2<0 then 0 else x2)then 1000000000000000 else(if x2<0 then 0 else x2))) ([])).bind fun o4=>XC o4)
def a84:dG:=⟨38,[(.tmp 8)],
 (.seq (.reg [sq 8 (.mv kN)])
 (.seq (.reg [Qa 12 2,
Qk 13 133 12,
Qa 14 3,
Qk 15 133 14,
Qa 2 13,
Qa 3 15])
 (.seq (.reg [sq 9 (.mv kN)])
 (.seq (.seq (.reg [Qa 16 0,
Qa 17 1,
Ql 18 134 16 17,
Qh 19 18,
Qe 20 0])
 (.sem (.block 0 (.loop (.seq (.reg [Qn 21 20 19])
 (.seq (.cond (.t 21)
 .skip
 (.exit 0))
 (.seq (.block 1 (.seq (.reg [Qp 22 4 18 20,
Qc 23 4 22,
sq 11 (.zbox [dS ⟨#[]⟩,dI 0,dI 0,dI 0]),
su (.store 4 (.t 11) (.t 23))])
 (.seq (.seq (.reg [Qa 24 2,
Qa 25 3,
sq 26 (.bin .leq (.t 24) (.t 25))])
 (.cond (.t 26)
 (.exit 0)
 .skip))
 (.seq (.reg [Qa 27 2,
Qb 28 2 11,
Qd 29 28,
sq 30 (.bin .sub (.t 27) (.t 29)),
Qa 2 30])
 (.reg [Qa 31 9,
Qb 32 0 11,
Qd 33 32,
sq 34 (.bslice 1 [(.t 33)]),
sq 35 (.app 1 16 (.t 31) (.t 34)),
Qa 9 35])))))
 (.reg [Qm 36 20 1,
Qa 20 36]))))))))
 (.seq (.reg [Qa 37 9,
Qa 8 37])
 .ret)))))⟩
theorem F84_ok{x0 x1 x2 x3 r}(h:F84 x0 x1 x2 x3=XC r):aW Tryz.prog 84 [.c (dM (x0.map ja)),.c (dM (x1.map eI)),.c (dI x2),.c (dI x3)] [] (bJ [.c (ow 0 0 r)]) [iS 0 r]:=by
 rw[F84]at h
 refine zc a84 (by kernel_rfl) rfl (ww ?_)
 obtain⟨t1,ht1,h⟩:=bi h
 refine cN [] (F133_ok ht1) trivial (ww ?_)
 obtain⟨t2,ht2,h⟩:=bi h
 refine cN [] (F133_ok ht2) trivial (ww ?_)
 obtain⟨t3,ht3,h⟩:=bi h
 refine cN [] (F134_ok ht3) trivial (ww ?_)
 obtain⟨o4,ho,h⟩:=bi h
 refine bD (fun s=>s=⟨[(9,oc (ow 0 0 o4))],[iS 0 o4]⟩) ?_ ?_
 ·have h:=ho
  obtain⟨_,hk,h⟩:=bi h
  have hk:=cr hk
  refine ww ?_
  refine bL (fun j s=>∃(o4_2:Nat) (o4_0:Int) (o4_1:List ByteArray),(o4_2≤t3.length∧j=t3.length-o4_2)∧s=⟨[(2,oI o4_0),(3,oI ((if 1000000000000000<(if x3<0 then 0 else x3)then 1000000000000000 else(if x3<0 then 0 else x3)))),(9,oc (ow 0 0 o4_1)),(18,oc (ow 1 0 t3)),(19,oI (t3.length:Int)),(20,oI (o4_2:Int))],[iS 0 o4_1,cA 0 t3]⟩∧F84_l4 x3 (t3.drop o4_2) o4_2 o4_0 o4_1=XC o4) (t3.length-0) [XD,XC 0] ⟨0,(if 1000000000000000<(if x2<0 then 0 else x2)then 1000000000000000 else(if x2<0 then 0 else x2)),[],⟨hk.1,rfl⟩,rfl,h⟩ ?_
  rintro _ _ ⟨o4_2,o4_0,o4_1,⟨hi,rfl⟩,rfl,h⟩
  refine ww ?_
  refine dq (fun c5=>?_) (fun c5=>?_)
  ·obtain⟨xo4,hxo4,hd⟩:=cW (show(o4_2:Int)<(t3.length:Int)from c5)
   rw[hd,F84_l4]at h
   refine ww ?_
   refine tO (enc:=ft) (xs:=t3) rfl rfl rfl hxo4 (ww ?_)
   refine cD.rd (aQ hxo4).2.1 (ww ?_)
   refine bG h (fun c6 h=>ww ?_) (fun c6 h=>ww ?_)
   ·cases h
    have qx:=q1 (cb hxo4)
    exact fI [XC 0] rfl
   refine tB (enc:=eS) (ys:=[xo4.key]) rfl rfl (ww ?_)
   obtain⟨a7,ha7,h⟩:=bi h
   have qx:=q1 (cb hxo4)
   refine Me (enc:=eS) (xs:=o4_1) rfl rfl rfl ha7 (ww ?_)
   rw[cL (by omega)]
   have qx:=q1 (cb hxo4)
   exact iI (t3.length-(o4_2+1)) i2 ⟨o4_2+1,(XF.wrap (o4_0-xo4.tC)),a7,⟨by omega,rfl⟩,rfl,h⟩ (by omega)
  rw[cX (show¬((o4_2:Int)<(t3.length:Int))from c5),F84_l4]at h
  refine ww ?_
  cases h
  exact eM [XC 0] rfl
 rintro _ rfl
 refine ww ?_
 cases h
 exact eF [XC 0]
def DC:AC:=(.reg [Qa 36 5,
Qb 37 2 3,
Qd 38 37,
Ql 39 39 36 38,
Qa 35 39,
Qo 40 35 0,
Qo 41 35 1,
Qa 6 40,
Qa 7 41])
def F10rf(e1:Nat)(b0:aj)(pods:List au)(v:aN):Option (Int×Bool):=(F39 v.aV ((⟨(⟨b0.ah.Node,b0.ah.cl,pods,b0.ah.aM,b0.ah.bW,b0.ah.bO,b0.ah.b8⟩:jn)⟩:gM))).bind fun t1=>XC ((t1.1,t1.2))
theorem F10rf_ok{e1 b0 pods v r}(h:F10rf e1 b0 pods v=XC r):sK Tryz.prog 86 0 DC [] (sM 86 0 (fun s=>s=⟨[(3,Pz 0),(4,Pz 1),(5,Pz 2),(6,oI r.1),(7,oB r.2)],[xb (aZ v),xb gx,xb (aA b0 (ow 3 0 pods)),ai 0 pods]⟩) (xQ 86 0 (fun _ _=>False) (fun _=>False)))
 ⟨[(3,Pz 0),(4,Pz 1),(5,Pz 2)],[xb (aZ v),xb gx,xb (aA b0 (ow 3 e1 pods)),ai e1 pods]⟩:=by
 rw[F10rf]at h
 unfold DC
 refine ww ?_
 obtain⟨t1,ht1,h⟩:=bi h
 refine cN [2,3] (F39_ok (e1:=e1) ht1) ⟨⟨(by first|rfl|(simp only[List.length_set];rfl)),by simp[bw.live,C.live,hp]⟩,⟨⟨rfl,trivial⟩,trivial⟩⟩ ?_
 refine ww ?_
 cases h
 exact eM i4 rfl
end Go.Proofs.YtojbebejhgbfeaaGreat
