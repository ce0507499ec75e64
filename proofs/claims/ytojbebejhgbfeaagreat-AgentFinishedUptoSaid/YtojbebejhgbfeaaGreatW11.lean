/- Each Go function as a function over typed data, and its walk. -/
import Derived.Test.YtojbebejhgbfeaaGreatW0
import Derived.Test.YtojbebejhgbfeaaGreatW3
import Derived.Test.YtojbebejhgbfeaaGreatW7
import Derived.Test.YtojbebejhgbfeaaGreatW8
import Derived.Test.YtojbebejhgbfeaaGreatW9
open Option renaming some->XC,none->XD
open Bool renaming false->XF,true->XG
open Go.IntKind renaming i64->XH
open List renaming length_set->XI
namespace Go.Proofs.YtojbebejhgbfeaaGreat
open Go Go.Fw Go.Shelf
set_option maxRecDepth 100000
set_option maxHeartbeats 4000000
set_option linter.unusedSimpArgs false
set_option linter.unusedVariables false
def F79i(x2:Int)(x3:Int)(b0:aj)(b1:af):Option ((List ag)×(List cp)):=(cI b1.an.ae.ad x2).bind fun y1=>(cI b1.aq x2).bind fun y2=>(F123 y2 b0.ah.cl 10 300).bind fun t3=>XC (((((((((((b1.an.ae.ad.set x2.toNat ((⟨y1.aV,2,y1.bk,y1.bM,y1.dZ,y1.bd,y1.Started⟩:ag)))).set x2.toNat ((⟨y1.aV,2,y1.bk,y1.bM,b0.ah.cl,y1.bd,y1.Started⟩:ag)))).set x2.toNat ((⟨y1.aV,2,y1.bk,x3,b0.ah.cl,y1.bd,y1.Started⟩:ag)))).set x2.toNat ((⟨y1.aV,2,y1.bk,x3,b0.ah.cl,XF,y1.Started⟩:ag)))).set x2.toNat ((⟨y1.aV,2,y1.bk,x3,b0.ah.cl,XF,XF⟩:ag))),(b1.aq.set x2.toNat ((⟨t3.1,t3.2⟩:cp)))))
def F79(x2:Int)(x3:Int)(b0:aj)(b1:af):Option ((List ag)×(List cp)):=(F79i x2 x3 b0 b1).bind fun r=>if r.1.length=b1.an.ae.ad.length∧r.2.length=b1.aq.length then XC r else XD
theorem F79_len2{x2:Int}{x3:Int}{b0:aj}{b1:af}{r:(List ag)×(List cp)}(h:F79 x2 x3 b0 b1=XC r):r.1.length=b1.an.ae.ad.length:=(bp h).2.1
theorem F79_len4{x2:Int}{x3:Int}{b0:aj}{b1:af}{r:(List ag)×(List cp)}(h:F79 x2 x3 b0 b1=XC r):r.2.length=b1.aq.length:=(bp h).2.2
def a79:dG:=⟨57,[],
 (.seq (.reg [Qa 9 1,
Qb 10 0 9,
Qb 11 0 10,
Qb 12 23 11,
Qb 13 5 12,
Qd 14 13,
Qa 15 2,
Qp 16 7 14 15,
Qa 8 16])
 (.seq (.reg [Qa 17 8,
Qa 18 8,
Qa 19 8,
Qa 20 0,
Qb 21 0 20,
Qb 22 0 21,
Qb 23 24 22,
Qd 24 23,
Qa 25 3,
Qb 26 0 17,
Qb 27 1 26,
su (.store 1 (.t 27) (kI 2)),
Qb 28 0 18,
Qb 29 4 28,
su (.store 1 (.t 29) (.t 24)),
Qb 30 0 19,
Qb 31 3 30,
su (.store 1 (.t 31) (.t 25))])
 (.seq (.reg [Qa 32 8,
Qa 33 8,
Qb 34 0 32,
Qb 35 5 34,
su (.store 1 (.t 35) (kB XF)),
Qb 36 0 33,
Qb 37 6 36,
su (.store 1 (.t 37) (kB XF))])
 (.regd [Qa 38 1,
sd 39 (.fieldA 0 (.t 38)) [0],
sd 40 (.fieldA 33 (.t 39)) [0,1],
sd 41 (.load XD (.t 40)) [0,1,2],
Qa 42 2,
Qa 43 1,
sd 44 (.fieldA 0 (.t 43)) [5],
sd 45 (.fieldA 33 (.t 44)) [5,6],
sd 46 (.load XD (.t 45)) [5,6,7],
Qa 47 2,
sd 48 (.indexA 2 (.t 46) (.t 47)) [5,6,7,8,9],
sd 49 (.load (XC 2) (.t 48)) [5,6,7,8,9,10],
Qa 50 0,
sd 51 (.fieldA 0 (.t 50)) [12],
sd 52 (.fieldA 0 (.t 51)) [12,13],
sd 53 (.fieldA 24 (.t 52)) [12,13,14],
sd 54 (.load XD (.t 53)) [12,13,14,15],
zl 55 (.call 123 [(.t 49),(.t 54),(kI 10),(kI 300)]) [5,6,7,8,9,10,11,12,13,14,15,16] [38,39,40],
sd 56 (.indexA 2 (.t 41) (.t 42)) [0,1,2,3,4,5,6,7,8,9,10,11,12,13,14,15,16,17],
⟨XD,XD,.store 2 (.t 56) (.t 55),[0,1,2,3,4,5,6,7,8,9,10,11,12,13,14,15,16,17,18],(.lone [])⟩]))))⟩
theorem F79_ok{x2 x3 b0 b1 r}{e2:Nat}{e3:Nat}{e4:Nat}(h:F79 x2 x3 b0 b1=XC r):aW Tryz.prog 79 [.c (.pt 0 0),.c (.pt 1 0),.c (dI x2),.c (dI x3)] (hM b0 b1 e2 e3 e4 b1.an.ae.ad b1.aK b1.aq []) (bJ []) (hM b0 b1 e2 e3 e4 r.1 b1.aK r.2 []):=by
 replace h:=(bp h).1
 rw[F79i]at h
 refine zc a79 (by kernel_rfl) rfl (ww ?_)
 obtain⟨y1,hy1,h⟩:=bi h
 refine tO (enc:=aC) (xs:=b1.an.ae.ad) rfl rfl rfl hy1 (ww ?_)
 refine eu.rd (y':=(⟨y1.aV,2,y1.bk,y1.bM,y1.dZ,y1.bd,y1.Started⟩:ag)) (aQ hy1).2.1 (by simp[EE.down]) (by first|rfl|(simp only[b5];rfl)) (ww ?_)
 refine eu.rd (y':=(⟨y1.aV,2,y1.bk,y1.bM,b0.ah.cl,y1.bd,y1.Started⟩:ag)) (aQ (eE hy1)).2.1 (by simp[EE.down]) (by first|rfl|(simp only[b5];rfl)) (ww ?_)
 refine eu.rd (y':=(⟨y1.aV,2,y1.bk,x3,b0.ah.cl,y1.bd,y1.Started⟩:ag)) (aQ (eE (eE hy1))).2.1 (by simp[EE.down]) (by first|rfl|(simp only[b5];rfl)) (ww ?_)
 refine eu.rd (y':=(⟨y1.aV,2,y1.bk,x3,b0.ah.cl,XF,y1.Started⟩:ag)) (aQ (eE (eE (eE hy1)))).2.1 (by simp[EE.down]) (by first|rfl|(simp only[b5];rfl)) (ww ?_)
 refine eu.rd (y':=(⟨y1.aV,2,y1.bk,x3,b0.ah.cl,XF,XF⟩:ag)) (aQ (eE (eE (eE (eE hy1))))).2.1 (by simp[EE.down]) (by first|rfl|(simp only[b5];rfl)) (ww ?_)
 obtain⟨y2,hy2,h⟩:=bi h
 have qx:=q1 (bc hy1)
 refine lV (enc:=fm) (xs:=b1.aq) rfl rfl rfl hy2 (ww ?_)
 refine cD.rd (aQ hy2).2.1 (ww ?_)
 obtain⟨t3,ht3,h⟩:=bi h
 have qx:=q2 (bc hy1) (bc hy2)
 refine cQ [] (F123_ok ht3) (ww ?_)
 have qx:=q2 (bc hy1) (bc hy2)
 refine lV (enc:=fm) (xs:=b1.aq) rfl rfl rfl hy2 (ww ?_)
 refine eu.rd (y':=(⟨t3.1,t3.2⟩:cp)) (aQ hy2).2.1 (by simp[EE.down]) (by first|rfl|(simp only[b5];rfl)) (ww ?_)
 cases h
 have qx:=q2 (bc hy1) (bc hy2)
 exact tg i5
def F85_l1(b0:aj)(b1:af):List ag→Nat→(List ag)→(List cp)→Option ((List ag)×(List cp))
 |[],o1_2,o1_0,o1_1=>XC ((o1_0,o1_1))
 |xo1::xs,o1_2,o1_0,o1_1=>(((cI o1_0 ((o1_2:Int))).bind fun y4=>(if y4.bH=1 then(F79 ((o1_2:Int)) 137 b0 ((⟨(⟨b1.an.ak,b1.an.Spec,(⟨b1.an.ae.bC,b1.an.ae.bd,b1.an.ae.bf,b1.an.ae.Started,b1.an.ae.bu,o1_0,b1.an.ae.bS,b1.an.ae.bg,b1.an.ae.b7⟩:cK)⟩:an),b1.aK,o1_1,b1.bh,b1.bK⟩:af))).bind fun t6=>XC ((t6.1,t6.2))else XC ((o1_0,o1_1)))).bind fun o3=>F85_l1 b0 b1 xs (o1_2+1) o3.1 o3.2)
def F85i(b0:aj)(b1:af):Option ((List ag)×(List cp)):=(((ck (0≤b1.an.ae.ad.length∧b1.an.ae.ad.length≤4294967290)).bind fun u7=>F85_l1 b0 b1 b1.an.ae.ad 0 b1.an.ae.ad b1.aq).bind fun o1=>XC ((o1.1,o1.2)))
def F85(b0:aj)(b1:af):Option ((List ag)×(List cp)):=(F85i b0 b1).bind fun r=>if r.1.length=b1.an.ae.ad.length∧r.2.length=b1.aq.length then XC r else XD
theorem F85_len2{b0:aj}{b1:af}{r:(List ag)×(List cp)}(h:F85 b0 b1=XC r):r.1.length=b1.an.ae.ad.length:=(bp h).2.1
theorem F85_len4{b0:aj}{b1:af}{r:(List ag)×(List cp)}(h:F85 b0 b1=XC r):r.2.length=b1.aq.length:=(bp h).2.2
def a85:dG:=⟨26,[],
 (.seq (.reg [Qa 6 1,
Qb 7 0 6,
Qb 8 0 7,
Qb 9 23 8,
Qb 10 5 9,
Qd 11 10,
Qh 12 11,
Qe 13 0])
 (.sem (.block 0 (.loop (.seq (.reg [Qn 14 13 12])
 (.seq (.cond (.t 14)
 .skip
 (.exit 0))
 (.seq (.sem (.block 1 (.seq (.reg [Qa 15 13,
Qp 16 7 11 13,
Qc 17 7 16,
sq 5 (.zbox [dS ⟨#[]⟩,dI 0,dI 0,dI 0,dI 0,dB XF,dB XF]),
Qa 4 15,
su (.store 7 (.t 5) (.t 17))])
 (.seq (.reg [Qb 18 1 5,
Qd 19 18,
Qr 20 19 1])
 (.cond (.t 20)
 (.reg [Qa 21 0,
Qa 22 1,
Qa 23 4,
zl 24 (.call 79 [(.t 21),(.t 22),(.t 23),(kI 137)]) [] []])
 .skip)))))
 (.reg [Qm 25 13 1,
Qa 13 25]))))))))⟩
theorem F85_ok{b0 b1 r}{e2:Nat}{e3:Nat}{e4:Nat}(h:F85 b0 b1=XC r):aW Tryz.prog 85 [.c (.pt 0 0),.c (.pt 1 0)] (hM b0 b1 e2 e3 e4 b1.an.ae.ad b1.aK b1.aq []) (bJ []) (hM b0 b1 e2 e3 e4 r.1 b1.aK r.2 []):=by
 replace h:=(bp h).1
 rw[F85i]at h
 refine zc a85 (by kernel_rfl) rfl (ww ?_)
 obtain⟨o1,ho,h⟩:=bi h
 refine bD (fun s=>s=⟨[],(hM b0 b1 e2 e3 e4 o1.1 b1.aK o1.2 [])⟩) ?_ ?_
 ·have h:=ho
  obtain⟨_,hk,h⟩:=bi h
  have hk:=cr hk
  refine ww ?_
  refine bL (fun j s=>∃(o1_2:Nat) (o1_0:List ag) (o1_1:List cp),(o1_2≤b1.an.ae.ad.length∧j=b1.an.ae.ad.length-o1_2)∧s=⟨[(0,Pz 0),(1,Pz 1),(11,oc (ow 2 e2 o1_0)),(12,oI (b1.an.ae.ad.length:Int)),(13,oI (o1_2:Int))],(hM b0 b1 e2 e3 e4 o1_0 b1.aK o1_1 [])⟩∧F85_l1 b0 b1 (b1.an.ae.ad.drop o1_2) o1_2 o1_0 o1_1=XC o1) (b1.an.ae.ad.length-0) i5 ⟨0,b1.an.ae.ad,b1.aq,⟨hk.1,rfl⟩,rfl,h⟩ ?_
  rintro _ _ ⟨o1_2,o1_0,o1_1,⟨hi,rfl⟩,rfl,h⟩
  refine ww ?_
  refine dq (fun c2=>?_) (fun c2=>?_)
  ·obtain⟨xo1,hxo1,hd⟩:=cW (show(o1_2:Int)<(b1.an.ae.ad.length:Int)from c2)
   rw[hd,F85_l1]at h
   refine ww ?_
   obtain⟨o3,ho,h⟩:=bi h
   refine bD (fun s=>s=⟨[(0,Pz 0),(1,Pz 1),(11,oc (ow 2 e2 o3.1)),(12,oI (b1.an.ae.ad.length:Int)),(13,oI (o1_2:Int))],(hM b0 b1 e2 e3 e4 o3.1 b1.aK o3.2 [])⟩) ?_ ?_
   ·have h:=ho
    refine ww ?_
    obtain⟨y4,hy4,h⟩:=bi h
    refine tO (enc:=aC) (xs:=o1_0) rfl rfl rfl hy4 (ww ?_)
    refine cD.rd (aQ hy4).2.1 (ww ?_)
    refine bG h (fun c5 h=>ww ?_) (fun c5 h=>ww ?_)
    ·obtain⟨t6,ht6,h⟩:=bi h
     have qx:=q2 (cb hxo1) (cb hy4)
     refine cQ [0,1,2,3,4] (F79_ok (e2:=e2) (e3:=e3) (e4:=e4) ht6) (ww ?_)
     cases h
     have qx:=q4 (F79_len2 ht6) (F79_len4 ht6) (cb hxo1) (cb hy4)
     exact fI i5 rfl
    cases h
    have qx:=q2 (cb hxo1) (cb hy4)
    exact fI i5 rfl
   rintro _ rfl
   refine ww ?_
   rw[cL (by omega)]
   exact jo (b1.an.ae.ad.length-(o1_2+1)) i5 ⟨o1_2+1,o3.1,o3.2,⟨by omega,rfl⟩,rfl,h⟩ (by omega)
  rw[cX (show¬((o1_2:Int)<(b1.an.ae.ad.length:Int))from c2),F85_l1]at h
  refine ww ?_
  cases h
  exact eM i5 rfl
 rintro _ rfl
 refine ww ?_
 cases h
 exact eF i5
def F80i(x2:Int)(x3:Int)(x4:Bool)(b0:aj)(b1:af):Option ((List ag)×(List aF)×(List cp)):=(cI b1.an.Spec.ad x2).bind fun y1=>(F124 y1 x3).bind fun t2=>(cI b1.an.ae.ad x2).bind fun y3=>(((if(t2.length:Int)=0 then XC XG else(if¬(y3.bH=1)then XC XG else(if x3<2 then XC (nb y3.Started)else XC XF)))).bind fun o4=>(if o4=XG then XC ((b1.an.ae.ad,b1.aK,b1.aq))else(cI t2 0).bind fun y9=>(cI b1.aK ((XH.wrap (((XH.wrap (3*x2)))+x3)))).bind fun y10=>(F125 y9 y10 x4 b0.ah.cl).bind fun t11=>(if x3=0 then(((if(nb x4)=XG then XC (decide ((if y9.fe<1 then 1 else y9.fe)≤(t11).fg))else XC XF)).bind fun o13=>(if o13=XG then(F79 x2 137 b0 ((⟨b1.an,(b1.aK.set ((XH.wrap (((XH.wrap (3*x2)))+x3))).toNat t11),b1.aq,b1.bh,b1.bK⟩:af))).bind fun t16=>XC ((t16.1,(b1.aK.set ((XH.wrap (((XH.wrap (3*x2)))+x3))).toNat t11),t16.2))else XC ((b1.an.ae.ad,(b1.aK.set ((XH.wrap (((XH.wrap (3*x2)))+x3))).toNat t11),b1.aq))))else(if x3=1 then XC (((b1.an.ae.ad.set x2.toNat ((⟨y3.aV,y3.bH,y3.bk,y3.bM,y3.dZ,(t11).Good,y3.Started⟩:ag))),(b1.aK.set ((XH.wrap (((XH.wrap (3*x2)))+x3))).toNat t11),b1.aq))else(if x3=2 then(if y3.Started=XG then XC (((b1.an.ae.ad.set x2.toNat ((⟨y3.aV,y3.bH,y3.bk,y3.bM,y3.dZ,y3.bd,XG⟩:ag))),(b1.aK.set ((XH.wrap (((XH.wrap (3*x2)))+x3))).toNat t11),b1.aq))else XC (((b1.an.ae.ad.set x2.toNat ((⟨y3.aV,y3.bH,y3.bk,y3.bM,y3.dZ,y3.bd,(t11).Good⟩:ag))),(b1.aK.set ((XH.wrap (((XH.wrap (3*x2)))+x3))).toNat t11),b1.aq)))else XC ((b1.an.ae.ad,(b1.aK.set ((XH.wrap (((XH.wrap (3*x2)))+x3))).toNat t11),b1.aq)))))))
def F80(x2:Int)(x3:Int)(x4:Bool)(b0:aj)(b1:af):Option ((List ag)×(List aF)×(List cp)):=(F80i x2 x3 x4 b0 b1).bind fun r=>if r.1.length=b1.an.ae.ad.length∧r.2.1.length=b1.aK.length∧r.2.2.length=b1.aq.length then XC r else XD
theorem F80_len2{x2:Int}{x3:Int}{x4:Bool}{b0:aj}{b1:af}{r:(List ag)×(List aF)×(List cp)}(h:F80 x2 x3 x4 b0 b1=XC r):r.1.length=b1.an.ae.ad.length:=(bp h).2.1
theorem F80_len3{x2:Int}{x3:Int}{x4:Bool}{b0:aj}{b1:af}{r:(List ag)×(List aF)×(List cp)}(h:F80 x2 x3 x4 b0 b1=XC r):r.2.1.length=b1.aK.length:=(bp h).2.2.1
theorem F80_len4{x2:Int}{x3:Int}{x4:Bool}{b0:aj}{b1:af}{r:(List ag)×(List aF)×(List cp)}(h:F80 x2 x3 x4 b0 b1=XC r):r.2.2.length=b1.aq.length:=(bp h).2.2.2
def a80:dG:=⟨122,[],
 (.seq (.reg [Qa 13 1,
Qb 14 0 13,
Qb 15 0 14,
Qb 16 13 15,
Qb 17 4 16,
Qd 18 17,
Qa 19 2,
Qp 20 11 18 19,
Qc 21 11 20,
Qa 22 3,
Ql 23 124 21 22,
Qa 10 23])
 (.seq (.reg [Qa 24 1,
Qb 25 0 24,
Qb 26 0 25,
Qb 27 23 26,
Qb 28 5 27,
Qd 29 28,
Qa 30 2,
Qp 31 7 29 30,
Qa 11 31])
 (.seq (.seq (.sem (.reg [Qa 32 10,
Qh 33 32,
Qr 34 33 0,
Qa 35 34,
Qv 36 35 XF 11,
Qs 37 35 XF 0 36,
Qs 38 35 XF 1 37,
Qt 39 35 XF 38,
zg 40 35 XF (.bin .neq (.t 39) (kI 1)),
Qj 41 35 40,
Qa 42 41,
Qv 43 42 XF 3,
zg 44 42 XF (.bin .lss (.t 43) (kI 2)),
Qv 45 42 XF 44,
Qv 46 45 XG 11,
Qs 47 45 XG 0 46,
Qs 48 45 XG 6 47,
Qt 49 45 XG 48,
zg 50 45 XG (.not (.t 49)),
zg 51 42 XF (.pick (.t 45) (.t 50) (kB XF)),
Qj 52 42 51]))
 (.cond (.t 52)
 .ret
 .skip))
 (.seq (.regd [Qa 53 10,
sd 54 (.indexA 4 (.t 53) (kI 0)) [0],
sd 55 (.load (XC 4) (.t 54)) [0,1],
Qa 56 1,
sd 57 (.fieldA 0 (.t 56)) [3],
sd 58 (.fieldA 32 (.t 57)) [3,4],
sd 59 (.load XD (.t 58)) [3,4,5],
Qa 60 2,
sd 61 (.bin .mul (kI 3) (.t 60)) [7],
Qa 62 3,
sd 63 (.bin .add (.t 61) (.t 62)) [7,8,9],
sd 64 (.indexA 4 (.t 59) (.t 63)) [3,4,5,6,7,8,9,10],
sd 65 (.load (XC 4) (.t 64)) [3,4,5,6,7,8,9,10,11],
Qa 66 4,
Qa 67 0,
sd 68 (.fieldA 0 (.t 67)) [14],
sd 69 (.fieldA 0 (.t 68)) [14,15],
sd 70 (.fieldA 24 (.t 69)) [14,15,16],
sd 71 (.load XD (.t 70)) [14,15,16,17],
zn 72 (.call 125 [(.t 55),(.t 65),(.t 66),(.t 71)]) [0,1,2,3,4,5,6,7,8,9,10,11,12,13,14,15,16,17,18] [0,1,2,3,4,5,6,7,8,9,10,11,12,13,14,15,16,17,18],
sq 12 (.zbox [dI 0,dI 0,dB XF,dI 0]),
⟨XD,XD,.store 4 (.t 12) (.t 72),[0,1,2,3,4,5,6,7,8,9,10,11,12,13,14,15,16,17,18,19,20],(.lone [])⟩])
 (.seq (.regd [Qa 73 1,
sd 74 (.fieldA 0 (.t 73)) [0],
sd 75 (.fieldA 32 (.t 74)) [0,1],
sd 76 (.load XD (.t 75)) [0,1,2],
Qa 77 2,
sd 78 (.bin .mul (kI 3) (.t 77)) [4],
Qa 79 3,
sd 80 (.bin .add (.t 78) (.t 79)) [4,5,6],
Qc 81 4 12,
sd 82 (.indexA 4 (.t 76) (.t 80)) [0,1,2,3,4,5,6,7,8],
⟨XD,XD,.store 4 (.t 82) (.t 81),[0,1,2,3,4,5,6,7,8,9],(.lone [])⟩])
 (.seq (.reg [Qa 83 3])
 (.block 0 (.seq (.reg [Qr 85 83 0,
Qa 84 85])
 (.cond (.t 84)
 (.seq (.sem (.regd [Qa 86 4,
sd 87 (.not (.t 86)) [0],
sd 88 (.mv (.t 87)) [0,1],
⟨(XC 89),(XC (88,XG)),.fieldA 1 (.t 12),[0,1,2],(.new [])⟩,
⟨(XC 90),(XC (88,XG)),.load XD (.t 89),[0,1,2,3],(.new [])⟩,
⟨(XC 91),(XC (88,XG)),.mv (.t 10),[0,1,2],(.new [])⟩,
⟨(XC 92),(XC (88,XG)),.indexA 4 (.t 91) (kI 0),[0,1,2,5],(.new [])⟩,
⟨(XC 93),(XC (88,XG)),.fieldA 3 (.t 92),[0,1,2,5,6],(.new [])⟩,
⟨(XC 94),(XC (88,XG)),.load XD (.t 93),[0,1,2,5,6,7],(.new [])⟩,
⟨(XC 95),(XC (88,XG)),.max (.t 94) (kI 1),[0,1,2,5,6,7,8],(.new [])⟩,
⟨(XC 96),(XC (88,XG)),.bin .geq (.t 90) (.t 95),[0,1,2,3,4,5,6,7,8,9],(.new [])⟩,
zl 97 (.pick (.t 88) (.t 96) (kB XF)) [0,1,2,3,4,5,6,7,8,9,10] []]))
 (.cond (.t 97)
 (.reg [Qa 98 0,
Qa 99 1,
Qa 100 2,
zl 101 (.call 79 [(.t 98),(.t 99),(.t 100),(kI 137)]) [] []])
 .skip))
 (.seq (.reg [Qr 103 83 1,
Qa 102 103])
 (.cond (.t 102)
 (.reg [Qa 104 11,
Qb 105 2 12,
Qd 106 105,
Qb 107 0 104,
Qb 108 5 107,
⟨XD,XD,.store 1 (.t 108) (.t 106),[],(.lone [12,105,104,107])⟩])
 (.seq (.reg [Qr 110 83 2,
Qa 109 110])
 (.cond (.t 109)
 (.reg [Qa 111 11,
Qa 112 11,
Qb 113 0 112,
Qb 114 6 113,
Qd 115 114,
Qa 116 115,
Qs 117 116 XF 2 12,
Qt 118 116 XF 117,
Qj 119 116 118,
Qb 120 0 111,
Qb 121 6 120,
su (.store 1 (.t 121) (.t 119))])
 .skip)))))))))))))⟩
theorem F80_ok{x2 x3 x4 b0 b1 r}{e2:Nat}{e3:Nat}{e4:Nat}(h:F80 x2 x3 x4 b0 b1=XC r):aW Tryz.prog 80 [.c (.pt 0 0),.c (.pt 1 0),.c (dI x2),.c (dI x3),.c (dB x4)] (hM b0 b1 e2 e3 e4 b1.an.ae.ad b1.aK b1.aq []) (bJ []) (hM b0 b1 e2 e3 e4 r.1 r.2.1 r.2.2 []):=by
 replace h:=(bp h).1
 rw[F80i]at h
 refine zc a80 (by kernel_rfl) rfl (ww ?_)
 obtain⟨y1,hy1,h⟩:=bi h
 refine bI (enc:=bo) (xs:=b1.an.Spec.ad) rfl rfl hy1 rfl (ww ?_)
 obtain⟨t2,ht2,h⟩:=bi h
 refine cN [] (F124_ok ht2) trivial (ww ?_)
 obtain⟨y3,hy3,h⟩:=bi h
 refine tO (enc:=aC) (xs:=b1.an.ae.ad) rfl rfl rfl hy3 (ww ?_)
 obtain⟨o4,ho,h⟩:=bi h
 refine bD (fun s=>s=⟨[(0,Pz 0),(1,Pz 1),(2,oI x2),(3,oI x3),(4,oB x4),(10,oM (t2.map el)),(11,oc (.pe 2 e2 x2.toNat 0)),(52,oB o4)],(hM b0 b1 e2 e3 e4 b1.an.ae.ad b1.aK b1.aq [])⟩) ?_ ?_
 ·have h:=ho
  refine ww ?_
  refine bR h (fun g5 h=>ww ?_) (fun g5 h=>ww ?_)
  ·cases h
   have qx:=q2 (bc hy1) (bc hy3)
   exact fI i5 rfl
  refine cD.rd (aQ hy3).2.1 (ww ?_)
  refine bR h (fun g6 h=>ww ?_) (fun g6 h=>ww ?_)
  ·cases h
   have qx:=q2 (bc hy1) (bc hy3)
   exact fI i5 rfl
  refine bR h (fun g7 h=>ww ?_) (fun g7 h=>ww ?_)
  ·refine cD.rd (aQ hy3).2.1 (ww ?_)
   cases h
   have qx:=q2 (bc hy1) (bc hy3)
   exact fI i5 rfl
  cases h
  have qx:=q2 (bc hy1) (bc hy3)
  exact fI i5 rfl
 rintro _ rfl
 refine ww ?_
 refine ct h (fun c8 h=>ww ?_) (fun c8 h=>ww ?_)
 ·cases h
  have qx:=q2 (bc hy1) (bc hy3)
  exact tg i5
 obtain⟨y9,hy9,h⟩:=bi h
 refine bI (enc:=el) (xs:=t2) rfl rfl hy9 rfl (ww ?_)
 obtain⟨y10,hy10,h⟩:=bi h
 have qx:=q2 (bc hy1) (bc hy3)
 refine lV (enc:=cu) (xs:=b1.aK) rfl rfl rfl hy10 (ww ?_)
 refine cD.rd (aQ hy10).2.1 (ww ?_)
 obtain⟨t11,ht11,h⟩:=bi h
 have qx:=q3 (bc hy1) (bc hy3) (bc hy10)
 refine cQ [] (F125_ok ht11) (ww ?_)
 refine iu (by simp[fE,gO,cH]) (ww ?_)
 have qx:=q3 (bc hy1) (bc hy3) (bc hy10)
 refine lV (enc:=cu) (xs:=b1.aK) rfl rfl rfl hy10 (ww ?_)
 refine eu.rd (y':=t11) (aQ hy10).2.1 (by simp[EE.down]) (by first|rfl|(simp only[b5];rfl)) (ww ?_)
 refine bG h (fun c12 h=>ww ?_) (fun c12 h=>ww ?_)
 ·obtain⟨o13,ho,h⟩:=bi h
  refine bD (fun s=>s=⟨[(0,Pz 0),(1,Pz 1),(2,oI x2),(97,oB o13)],[xb (cj b0),xb (bj b1 (ow 2 e2 b1.an.ae.ad) (.own 3 e3 0 (((b1.aK.set ((XH.wrap (((XH.wrap (3*x2)))+x3))).toNat t11)).length) XD) (ow 4 e4 b1.aq)),aE e2 b1.an.ae.ad,aU e3 ((b1.aK.set ((XH.wrap (((XH.wrap (3*x2)))+x3))).toNat t11)),bQ e4 b1.aq]⟩) ?_ ?_
  ·have h:=ho
   refine ww ?_
   refine iH h (fun g14 h=>ww ?_) (fun g14 h=>ww ?_)
   ·refine bI (enc:=el) (xs:=t2) rfl rfl hy9 rfl (ww ?_)
    cases h
    have qx:=q3 (bc hy1) (bc hy3) (bc hy10)
    exact fI i5 rfl
   cases h
   have qx:=q3 (bc hy1) (bc hy3) (bc hy10)
   exact fI i5 rfl
  rintro _ rfl
  refine ww ?_
  refine ct h (fun c15 h=>ww ?_) (fun c15 h=>ww ?_)
  ·obtain⟨t16,ht16,h⟩:=bi h
   refine cN [0,1,2,3,4] (F79_ok (e2:=e2) (e3:=e3) (e4:=e4) ht16) ⟨⟨(by first|rfl|(simp only[XI];rfl)),by simp[bw.live,C.live,hp]⟩,⟨⟨(by first|rfl|(simp only[XI];rfl)),by simp[bw.live,C.live,hp]⟩,⟨⟨rfl,trivial⟩,⟨⟨rfl,trivial⟩,⟨⟨rfl,trivial⟩,trivial⟩⟩⟩⟩⟩ ?_
   refine ww ?_
   cases h
   have qx:=q2 (F79_len2 ht16) (F79_len4 ht16)
   exact tg i5
  cases h
  exact eF i5
 refine bG h (fun c17 h=>ww ?_) (fun c17 h=>ww ?_)
 ·refine eu.rd (y':=(⟨y3.aV,y3.bH,y3.bk,y3.bM,y3.dZ,(t11).Good,y3.Started⟩:ag)) (aQ hy3).2.1 (by simp[EE.down]) (by first|rfl|(simp only[b5];rfl)) (ww ?_)
  cases h
  have qx:=q3 (bc hy1) (bc hy3) (bc hy10)
  exact tg i5
 refine bG h (fun c18 h=>ww ?_) (fun c18 h=>ww ?_)
 ·refine cD.rd (aQ hy3).2.1 (ww ?_)
  refine dK h (fun g19 h=>ww ?_) (fun g19 h=>ww ?_)
  ·refine eu.rd (y':=(⟨y3.aV,y3.bH,y3.bk,y3.bM,y3.dZ,y3.bd,XG⟩:ag)) (aQ hy3).2.1 (by simp[EE.down]) (by first|rfl|(simp only[b5];rfl)) (ww ?_)
   cases h
   have qx:=q3 (bc hy1) (bc hy3) (bc hy10)
   exact tg i5
  refine eu.rd (y':=(⟨y3.aV,y3.bH,y3.bk,y3.bM,y3.dZ,y3.bd,(t11).Good⟩:ag)) (aQ hy3).2.1 (by simp[EE.down]) (by first|rfl|(simp only[b5];rfl)) (ww ?_)
  cases h
  have qx:=q3 (bc hy1) (bc hy3) (bc hy10)
  exact tg i5
 cases h
 have qx:=q3 (bc hy1) (bc hy3) (bc hy10)
 exact tg i5
def F63(x1:ByteArray)(b0:aj):Option (Bool):=(F108 b0.ah.aM x1).bind fun t1=>XC t1
def a63:dG:=⟨12,[(.tmp 4)],
 (.seq (.reg [Qg 3 1,
Qf 4 XF])
 (.seq (.reg [Qa 5 0,
Qb 6 0 5,
Qb 7 0 6,
Qb 8 26 7,
Qd 9 8,
sq 10 (.fn 109 [(.t 3)]),
Ql 11 108 9 10,
Qa 4 11])
 .ret))⟩
theorem F63_ok{x1 b0 r}(h:F63 x1 b0=XC r):aW Tryz.prog 63 [.c (.pt 0 0),.c (dS x1)] [xb (cj b0)] (bJ [.c (dB r)]) [xb (cj b0)]:=by
 rw[F63]at h
 refine zc a63 (by kernel_rfl) rfl (ww ?_)
 obtain⟨t1,ht1,h⟩:=bi h
 refine cN [1] (F108_ok ht1) ⟨⟨(by first|rfl|(simp only[XI];rfl)),by simp[bw.live,C.live,hp]⟩,trivial⟩ ?_
 refine ww ?_
 cases h
 exact eF [XC 0]
def F138(x2:Int)(b0:aj)(b1:af):Option (Bool):=(cI b1.an.ae.ad x2).bind fun y1=>(((if b1.an.Spec.ca=0 then XC XG else(if b1.an.Spec.ca=1 then XC (decide (¬(y1.bM=0)))else XC XF))).bind fun o2=>(((if o2=XG then(cI b1.an.Spec.ad x2).bind fun y7=>(F63 y7.aw b0).bind fun t8=>(if t8=XG then(cI b1.aq x2).bind fun y10=>(F199 y10 b0.ah.cl).bind fun t11=>XC (decide (y10.At≤b0.ah.cl))else XC XF)else XC XF)).bind fun o5=>XC o5))
def a138:dG:=⟨69,[(.tmp 6)],
 (.seq (.reg [Qf 6 XF])
 (.seq (.reg [Qa 9 1,
Qb 10 0 9,
Qb 11 0 10,
Qb 12 23 11,
Qb 13 5 12,
Qd 14 13,
Qa 15 2,
Qp 16 7 14 15,
Qc 17 7 16,
sq 7 (.zbox [dS ⟨#[]⟩,dI 0,dI 0,dI 0,dI 0,dB XF,dB XF]),
su (.store 7 (.t 7) (.t 17))])
 (.seq (.sem (.reg [Qa 18 1,
Qb 19 0 18,
Qb 20 0 19,
Qb 21 13 20,
Qb 22 2 21,
Qd 23 22,
Qr 24 23 0,
Qa 25 24,
Qv 26 25 XF 1,
Qs 27 25 XF 0 26,
Qs 28 25 XF 0 27,
Qs 29 25 XF 13 28,
Qs 30 25 XF 2 29,
Qt 31 25 XF 30,
zg 32 25 XF (.bin .eql (.t 31) (kI 1)),
Qv 33 25 XF 32,
Qs 34 33 XG 3 7,
Qt 35 33 XG 34,
zg 36 33 XG (.bin .neq (.t 35) (kI 0)),
zg 37 25 XF (.pick (.t 33) (.t 36) (kB XF)),
Qj 38 25 37,
Qa 8 38]))
 (.seq (.sem (.regd [Qa 39 8,
sd 40 (.mv (.t 39)) [0],
⟨(XC 41),(XC (40,XG)),.mv (.t 0),[0,1],(.new [])⟩,
⟨(XC 42),(XC (40,XG)),.mv (.t 1),[0,1],(.new [])⟩,
⟨(XC 43),(XC (40,XG)),.fieldA 0 (.t 42),[0,1,3],(.new [])⟩,
⟨(XC 44),(XC (40,XG)),.fieldA 0 (.t 43),[0,1,3,4],(.new [])⟩,
⟨(XC 45),(XC (40,XG)),.fieldA 13 (.t 44),[0,1,3,4,5],(.new [])⟩,
⟨(XC 46),(XC (40,XG)),.fieldA 4 (.t 45),[0,1,3,4,5,6],(.new [])⟩,
⟨(XC 47),(XC (40,XG)),.load XD (.t 46),[0,1,3,4,5,6,7],(.new [])⟩,
⟨(XC 48),(XC (40,XG)),.mv (.t 2),[0,1],(.new [])⟩,
⟨(XC 49),(XC (40,XG)),.indexA 11 (.t 47) (.t 48),[0,1,3,4,5,6,7,8,9],(.new [])⟩,
⟨(XC 50),(XC (40,XG)),.fieldA 1 (.t 49),[0,1,3,4,5,6,7,8,9,10],(.new [])⟩,
⟨(XC 51),(XC (40,XG)),.load XD (.t 50),[0,1,3,4,5,6,7,8,9,10,11],(.new [])⟩,
⟨(XC 52),(XC (40,XG)),.call 63 [(.t 41),(.t 51)],[0,1,2,3,4,5,6,7,8,9,10,11,12],(.lone [])⟩,
zl 53 (.pick (.t 40) (.t 52) (kB XF)) [0,1,2,3,4,5,6,7,8,9,10,11,12,13] [],
sd 54 (.mv (.t 53)) [0,1,2,3,4,5,6,7,8,9,10,11,12,13,14],
⟨(XC 55),(XC (54,XG)),.mv (.t 1),[0,1,2,3,4,5,6,7,8,9,10,11,12,13,14,15],(.new [])⟩,
⟨(XC 56),(XC (54,XG)),.fieldA 0 (.t 55),[0,1,2,3,4,5,6,7,8,9,10,11,12,13,14,15,16],(.new [])⟩,
⟨(XC 57),(XC (54,XG)),.fieldA 33 (.t 56),[0,1,2,3,4,5,6,7,8,9,10,11,12,13,14,15,16,17],(.new [])⟩,
⟨(XC 58),(XC (54,XG)),.load XD (.t 57),[0,1,2,3,4,5,6,7,8,9,10,11,12,13,14,15,16,17,18],(.new [])⟩,
⟨(XC 59),(XC (54,XG)),.mv (.t 2),[0,1,2,3,4,5,6,7,8,9,10,11,12,13,14,15],(.new [])⟩,
⟨(XC 60),(XC (54,XG)),.indexA 2 (.t 58) (.t 59),[0,1,2,3,4,5,6,7,8,9,10,11,12,13,14,15,16,17,18,19,20],(.new [])⟩,
⟨(XC 61),(XC (54,XG)),.load (XC 2) (.t 60),[0,1,2,3,4,5,6,7,8,9,10,11,12,13,14,15,16,17,18,19,20,21],(.new [])⟩,
⟨(XC 62),(XC (54,XG)),.mv (.t 0),[0,1,2,3,4,5,6,7,8,9,10,11,12,13,14,15],(.new [])⟩,
⟨(XC 63),(XC (54,XG)),.fieldA 0 (.t 62),[0,1,2,3,4,5,6,7,8,9,10,11,12,13,14,15,23],(.new [])⟩,
⟨(XC 64),(XC (54,XG)),.fieldA 0 (.t 63),[0,1,2,3,4,5,6,7,8,9,10,11,12,13,14,15,23,24],(.new [])⟩,
⟨(XC 65),(XC (54,XG)),.fieldA 24 (.t 64),[0,1,2,3,4,5,6,7,8,9,10,11,12,13,14,15,23,24,25],(.new [])⟩,
⟨(XC 66),(XC (54,XG)),.load XD (.t 65),[0,1,2,3,4,5,6,7,8,9,10,11,12,13,14,15,23,24,25,26],(.new [])⟩,
⟨(XC 67),(XC (54,XG)),.call 199 [(.t 61),(.t 66)],[0,1,2,3,4,5,6,7,8,9,10,11,12,13,14,15,16,17,18,19,20,21,22,23,24,25,26,27],(.lone [])⟩,
zl 68 (.pick (.t 54) (.t 67) (kB XF)) [0,1,2,3,4,5,6,7,8,9,10,11,12,13,14,15,16,17,18,19,20,21,22,23,24,25,26,27,28] [],
sd 6 (.mv (.t 68)) [0,1,2,3,4,5,6,7,8,9,10,11,12,13,14,15,16,17,18,19,20,21,22,23,24,25,26,27,28,29]]))
 .ret))))⟩
theorem F138_ok{x2 b0 b1 r}{e2:Nat}{e3:Nat}{e4:Nat}(h:F138 x2 b0 b1=XC r):aW Tryz.prog 138 [.c (.pt 0 0),.c (.pt 1 0),.c (dI x2)] (hM b0 b1 e2 e3 e4 b1.an.ae.ad b1.aK b1.aq []) (bJ [.c (dB r)]) (hM b0 b1 e2 e3 e4 b1.an.ae.ad b1.aK b1.aq []):=by
 rw[F138]at h
 refine zc a138 (by kernel_rfl) rfl (ww ?_)
 obtain⟨y1,hy1,h⟩:=bi h
 refine tO (enc:=aC) (xs:=b1.an.ae.ad) rfl rfl rfl hy1 (ww ?_)
 refine cD.rd (aQ hy1).2.1 (ww ?_)
 obtain⟨o2,ho,h⟩:=bi h
 refine bD (fun s=>s=⟨[(0,Pz 0),(1,Pz 1),(2,oI x2),(8,oB o2)],(hM b0 b1 e2 e3 e4 b1.an.ae.ad b1.aK b1.aq [])⟩) ?_ ?_
 ·have h:=ho
  refine ww ?_
  refine bR h (fun g3 h=>ww ?_) (fun g3 h=>ww ?_)
  ·cases h
   have qx:=q1 (bc hy1)
   exact fI i5 rfl
  refine bR h (fun g4 h=>ww ?_) (fun g4 h=>ww ?_)
  ·cases h
   have qx:=q1 (bc hy1)
   exact fI i5 rfl
  cases h
  have qx:=q1 (bc hy1)
  exact fI i5 rfl
 rintro _ rfl
 refine ww ?_
 obtain⟨o5,ho,h⟩:=bi h
 refine bD (fun s=>s=⟨[(6,oB o5)],(hM b0 b1 e2 e3 e4 b1.an.ae.ad b1.aK b1.aq [])⟩) ?_ ?_
 ·have h:=ho
  refine ww ?_
  refine iH h (fun g6 h=>ww ?_) (fun g6 h=>ww ?_)
  ·obtain⟨y7,hy7,h⟩:=bi h
   refine bI (enc:=bo) (xs:=b1.an.Spec.ad) rfl rfl hy7 rfl (ww ?_)
   obtain⟨t8,ht8,h⟩:=bi h
   refine cN [0] (F63_ok ht8) ⟨⟨(by first|rfl|(simp only[XI];rfl)),by simp[bw.live,C.live,hp]⟩,trivial⟩ ?_
   refine ww ?_
   refine iH h (fun g9 h=>ww ?_) (fun g9 h=>ww ?_)
   ·obtain⟨y10,hy10,h⟩:=bi h
    refine tO (enc:=fm) (xs:=b1.aq) rfl rfl rfl hy10 (ww ?_)
    refine cD.rd (aQ hy10).2.1 (ww ?_)
    obtain⟨t11,ht11,h⟩:=bi h
    have qx:=q3 (bc hy1) (bc hy7) (bc hy10)
    refine cQ [] (F199_ok ht11) (ww ?_)
    cases h
    have qx:=q3 (bc hy1) (bc hy7) (bc hy10)
    exact fI i5 rfl
   cases h
   exact eM i5 rfl
  cases h
  exact eM i5 rfl
 rintro _ rfl
 refine ww ?_
 cases h
 exact eF i5
end Go.Proofs.YtojbebejhgbfeaaGreat
