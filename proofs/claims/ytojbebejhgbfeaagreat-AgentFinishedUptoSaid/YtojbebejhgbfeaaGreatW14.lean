/- Each Go function as a function over typed data, and its walk. -/
import Derived.Test.YtojbebejhgbfeaaGreatW0
import Derived.Test.YtojbebejhgbfeaaGreatW2
import Derived.Test.YtojbebejhgbfeaaGreatW4
import Derived.Test.YtojbebejhgbfeaaGreatW5
import Derived.Test.YtojbebejhgbfeaaGreatW11
import Derived.Test.YtojbebejhgbfeaaGreatW12
import Derived.Test.YtojbebejhgbfeaaGreatW13
open Option renaming some->XC,none->XD
open Go.IntKind renaming i64->XF
open Bool renaming true->XG,false->XH
open Nat renaming lt_succ_self->XI
namespace Go.Proofs.YtojbebejhgbfeaaGreat
open Go Go.Fw Go.Shelf
set_option maxRecDepth 100000
set_option maxHeartbeats 4000000
set_option linter.unusedSimpArgs false
set_option linter.unusedVariables false
def F89_l1(b0:aj)(b1:af):List aP→Nat→(List ag)→(List aF)→Bool→Option ((List ag)×(List aF)×Bool)
 |[],o1_3,o1_0,o1_1,o1_2=>XC ((o1_0,o1_1,o1_2))
 |xo1::xs,o1_3,o1_0,o1_1,o1_2=>(((cI o1_0 ((o1_3:Int))).bind fun y4=>(((((if y4.bH=0 then(F63 xo1.aw b0).bind fun t8=>XC t8 else XC XH)).bind fun o6=>(if o6=XG then(F137 ((o1_3:Int)) b0 ((⟨(⟨b1.an.ak,b1.an.Spec,(⟨b1.an.ae.bC,b1.an.ae.bd,b1.an.ae.bf,b1.an.ae.Started,b1.an.ae.bu,o1_0,b1.an.ae.bS,b1.an.ae.bg,b1.an.ae.b7⟩:cK)⟩:an),o1_1,b1.aq,b1.bh,b1.bK⟩:af))).bind fun t10=>XC ((t10.1,t10.2))else(((if y4.bH=2 then(F138 ((o1_3:Int)) b0 ((⟨(⟨b1.an.ak,b1.an.Spec,(⟨b1.an.ae.bC,b1.an.ae.bd,b1.an.ae.bf,b1.an.ae.Started,b1.an.ae.bu,o1_0,b1.an.ae.bS,b1.an.ae.bg,b1.an.ae.b7⟩:cK)⟩:an),o1_1,b1.aq,b1.bh,b1.bK⟩:af))).bind fun t13=>XC t13 else XC XH)).bind fun o11=>(if o11=XG then(F137 ((o1_3:Int)) b0 ((⟨(⟨b1.an.ak,b1.an.Spec,(⟨b1.an.ae.bC,b1.an.ae.bd,b1.an.ae.bf,b1.an.ae.Started,b1.an.ae.bu,o1_0,b1.an.ae.bS,b1.an.ae.bg,b1.an.ae.b7⟩:cK)⟩:an),o1_1,b1.aq,b1.bh,b1.bK⟩:af))).bind fun t15=>(cI t15.1 ((o1_3:Int))).bind fun y16=>XC (((t15.1.set ((o1_3:Int)).toNat ((⟨y16.aV,y16.bH,(XF.wrap (y16.bk+1)),y16.bM,y16.dZ,y16.bd,y16.Started⟩:ag))),t15.2))else XC ((o1_0,o1_1))))))).bind fun o5=>(cI o5.1 ((o1_3:Int))).bind fun y17=>(((((if y17.bH=1 then XC (decide ((xo1.bd.length:Int)=0))else XC XH)).bind fun o19=>(if o19=XG then XC ((o5.1.set ((o1_3:Int)).toNat ((⟨y17.aV,y17.bH,y17.bk,y17.bM,y17.dZ,y17.Started,y17.Started⟩:ag))))else XC o5.1))).bind fun o18=>(cI o18 ((o1_3:Int))).bind fun y22=>(if o1_2=XG then(if y22.bH=1 then XC ((o18,o5.2,y22.bd))else XC ((o18,o5.2,XH)))else XC ((o18,o5.2,XH)))))).bind fun o3=>F89_l1 b0 b1 xs (o1_3+1) o3.1 o3.2.1 o3.2.2)
def F89i(b0:aj)(b1:af):Option (Int×Bool×Int×Int×(List ag)×(List aF)):=(((ck (0≤b1.an.Spec.ad.length∧b1.an.Spec.ad.length≤4294967290)).bind fun u25=>F89_l1 b0 b1 b1.an.Spec.ad 0 b1.an.ae.ad b1.aK XG).bind fun o1=>(F139 b1.an.Spec.ca o1.1).bind fun t26=>(((if o1.2.2=XG then XC (decide (t26=1))else XC XH)).bind fun o27=>(((((if o27=XG then XC (nb b1.an.ae.bd)else XC XH)).bind fun o30=>(if o30=XG then XC b0.ah.cl else XC b1.an.ae.bf))).bind fun o29=>(F62 ((⟨(⟨b1.an.ak,b1.an.Spec,(⟨t26,o27,o29,b1.an.ae.Started,b1.an.ae.bu,o1.1,b1.an.ae.bS,b1.an.ae.bg,b1.an.ae.b7⟩:cK)⟩:an),o1.2.1,b1.aq,b1.bh,b1.bK⟩:af))).bind fun t33=>(if t33=XG then XC ((t26,o27,o29,b0.ah.cl,o1.1,o1.2.1))else XC ((t26,o27,o29,b1.an.ae.bu,o1.1,o1.2.1))))))
def F89(b0:aj)(b1:af):Option (Int×Bool×Int×Int×(List ag)×(List aF)):=(F89i b0 b1).bind fun r=>if r.2.2.2.2.1.length=b1.an.ae.ad.length∧r.2.2.2.2.2.length=b1.aK.length then XC r else XD
theorem F89_len2{b0:aj}{b1:af}{r:Int×Bool×Int×Int×(List ag)×(List aF)}(h:F89 b0 b1=XC r):r.2.2.2.2.1.length=b1.an.ae.ad.length:=(bp h).2.1
theorem F89_len3{b0:aj}{b1:af}{r:Int×Bool×Int×Int×(List ag)×(List aF)}(h:F89 b0 b1=XC r):r.2.2.2.2.2.length=b1.aK.length:=(bp h).2.2
def a89:dG:=⟨159,[],
 (.seq (.reg [Qf 4 XG])
 (.seq (.seq (.reg [Qa 9 1,
Qb 10 0 9,
Qb 11 0 10,
Qb 12 13 11,
Qb 13 4 12,
Qd 14 13,
Qh 15 14,
Qe 16 0])
 (.sem (.block 0 (.loop (.seq (.reg [Qn 17 16 15])
 (.seq (.cond (.t 17)
 .skip
 (.exit 0))
 (.seq (.sem (.block 1 (.seq (.reg [Qa 18 16,
Qp 19 11 14 16,
Qc 20 11 19,
sq 6 (.zbox [dS ⟨#[]⟩,dS ⟨#[]⟩,dI 0,dI 0,dI 0,dI 0,dI 0,dI 0,dN,dN,dN]),
Qa 5 18,
su (.store 11 (.t 6) (.t 20))])
 (.seq (.reg [Qa 21 1,
Qb 22 0 21,
Qb 23 0 22,
Qb 24 23 23,
Qb 25 5 24,
Qd 26 25,
Qa 27 5,
Qp 28 7 26 27,
Qa 7 28])
 (.seq (.sem (.block 2 (.seq (.sem (.reg [Qa 30 7,
Qb 31 0 30,
Qb 32 1 31,
Qd 33 32,
Qr 34 33 0,
Qa 35 34,
Qv 36 35 XG 0,
Qs 37 35 XG 1 6,
Qt 38 35 XG 37,
zg 39 35 XG (.call 63 [(.t 36),(.t 38)]),
Qi 40 35 39,
Qa 29 40]))
 (.cond (.t 29)
 (.reg [Qa 41 0,
Qa 42 1,
Qa 43 5,
zl 44 (.call 137 [(.t 41),(.t 42),(.t 43)]) [] []])
 (.seq (.sem (.reg [Qa 46 7,
Qb 47 0 46,
Qb 48 1 47,
Qd 49 48,
Qr 50 49 2,
Qa 51 50,
Qv 52 51 XG 0,
Qv 53 51 XG 1,
Qv 54 51 XG 5,
zg 55 51 XG (.call 138 [(.t 52),(.t 53),(.t 54)]),
Qi 56 51 55,
Qa 45 56]))
 (.cond (.t 45)
 (.seq (.reg [Qa 57 0,
Qa 58 1,
Qa 59 5,
zl 60 (.call 137 [(.t 57),(.t 58),(.t 59)]) [] []])
 (.reg [Qa 61 7,
Qb 62 0 61,
Qb 63 2 62,
Qd 64 63,
Qm 65 64 1,
Qb 66 0 61,
Qb 67 2 66,
⟨XD,XD,.store 1 (.t 67) (.t 65),[],(.lone [61,62,63,61,66])⟩]))
 .skip))))))
 (.seq (.sem (.seq (.sem (.reg [Qa 68 7,
Qb 69 0 68,
Qb 70 1 69,
Qd 71 70,
Qr 72 71 1,
Qa 73 72,
Qs 74 73 XG 9 6,
Qt 75 73 XG 74,
zg 76 73 XG (.len (.t 75)),
zg 77 73 XG (.bin .eql (.t 76) (kI 0)),
zl 78 (.pick (.t 73) (.t 77) (kB XH)) [] [68,69,70,6,74,75]]))
 (.cond (.t 78)
 (.reg [Qa 79 7,
Qa 80 7,
Qb 81 0 80,
Qb 82 6 81,
Qd 83 82,
Qb 84 0 79,
Qb 85 5 84,
⟨XD,XD,.store 1 (.t 85) (.t 83),[],(.lone [80,81,82,79,84])⟩])
 .skip)))
 (.reg [Qa 86 4,
Qa 87 86,
Qv 88 87 XG 7,
Qs 89 87 XG 0 88,
Qs 90 87 XG 1 89,
Qt 91 87 XG 90,
zg 92 87 XG (.bin .eql (.t 91) (kI 1)),
Qi 93 87 92,
Qa 94 93,
Qv 95 94 XG 7,
Qs 96 94 XG 0 95,
Qs 97 94 XG 5 96,
Qt 98 94 XG 97,
Qi 99 94 98,
Qa 4 99])))))))
 (.reg [Qm 100 16 1,
Qa 16 100]))))))))
 (.seq (.reg [Qa 101 1,
Qb 102 0 101,
Qb 103 0 102,
Qb 104 23 103,
Qa 8 104])
 (.seq (.regd [Qa 105 8,
Qa 106 1,
sd 107 (.fieldA 0 (.t 106)) [1],
sd 108 (.fieldA 0 (.t 107)) [1,2],
sd 109 (.fieldA 13 (.t 108)) [1,2,3],
sd 110 (.fieldA 2 (.t 109)) [1,2,3,4],
sd 111 (.load XD (.t 110)) [1,2,3,4,5],
Qa 112 8,
sd 113 (.fieldA 0 (.t 112)) [7],
sd 114 (.fieldA 5 (.t 113)) [7,8],
sd 115 (.load XD (.t 114)) [7,8,9],
zl 116 (.call 139 [(.t 111),(.t 115)]) [1,2,3,4,5,6,7,8,9,10] [],
sd 117 (.fieldA 0 (.t 105)) [0,1,2,3,4,5,6,7,8,9,10,11],
sd 118 (.fieldA 0 (.t 117)) [0,1,2,3,4,5,6,7,8,9,10,11,12],
⟨XD,XD,.store 1 (.t 118) (.t 116),[0,1,2,3,4,5,6,7,8,9,10,11,12,13],(.lone [])⟩])
 (.seq (.sem (.reg [Qa 119 4,
Qa 120 119,
Qv 121 120 XG 8,
Qs 122 120 XG 0 121,
Qs 123 120 XG 0 122,
Qt 124 120 XG 123,
zg 125 120 XG (.bin .eql (.t 124) (kI 1)),
Qi 126 120 125,
Qa 4 126]))
 (.seq (.sem (.seq (.sem (.reg [Qa 127 4,
Qa 128 127,
Qv 129 128 XG 8,
Qs 130 128 XG 0 129,
Qs 131 128 XG 1 130,
Qt 132 128 XG 131,
zg 133 128 XG (.not (.t 132)),
zl 134 (.pick (.t 128) (.t 133) (kB XH)) [] [129,130,131]]))
 (.cond (.t 134)
 (.reg [Qa 135 8,
Qa 136 0,
Qb 137 0 136,
Qb 138 0 137,
Qb 139 24 138,
Qd 140 139,
Qb 141 0 135,
Qb 142 2 141,
⟨XD,XD,.store 1 (.t 142) (.t 140),[],(.lone [136,137,138,139,135,141])⟩])
 .skip)))
 (.seq (.reg [Qa 143 8,
Qa 144 4,
Qb 145 0 143,
Qb 146 1 145,
⟨XD,XD,.store 1 (.t 146) (.t 144),[],(.lone [143,145])⟩])
 (.seq (.reg [Qa 147 1,
Qb 148 0 147,
Qc 149 36 148,
zl 150 (.call 62 [(.t 149)]) [] [147,148]])
 (.cond (.t 150)
 (.reg [Qa 151 8,
Qa 152 0,
Qb 153 0 152,
Qb 154 0 153,
Qb 155 24 154,
Qd 156 155,
Qb 157 0 151,
Qb 158 4 157,
⟨XD,XD,.store 1 (.t 158) (.t 156),[],(.lone [152,153,154,155,151,157])⟩])
 .skip)))))))))⟩
theorem F89_ok{b0 b1 r}{e2:Nat}{e3:Nat}{e4:Nat}(h:F89 b0 b1=XC r):aW Tryz.prog 89 [.c (.pt 0 0),.c (.pt 1 0)] (hM b0 b1 e2 e3 e4 b1.an.ae.ad b1.aK b1.aq []) (bJ []) [xb (cj b0),xb (kh b1 (dI r.1) (dB r.2.1) (dI r.2.2.1) (dI r.2.2.2.1) (ow 2 e2 r.2.2.2.2.1) (ow 3 e3 r.2.2.2.2.2) (ow 4 e4 b1.aq)),aE e2 r.2.2.2.2.1,aU e3 r.2.2.2.2.2,bQ e4 b1.aq]:=by
 replace h:=(bp h).1
 rw[F89i]at h
 refine zc a89 (by kernel_rfl) rfl (ww ?_)
 obtain⟨o1,ho,h⟩:=bi h
 refine bD (fun s=>s=⟨[(0,Pz 0),(1,Pz 1),(4,oB o1.2.2)],(hM b0 b1 e2 e3 e4 o1.1 o1.2.1 b1.aq [])⟩) ?_ ?_
 ·have h:=ho
  obtain⟨_,hk,h⟩:=bi h
  have hk:=cr hk
  refine ww ?_
  refine bL (fun j s=>∃(o1_3:Nat) (o1_0:List ag) (o1_1:List aF) (o1_2:Bool),(o1_3≤b1.an.Spec.ad.length∧j=b1.an.Spec.ad.length-o1_3)∧s=⟨[(0,Pz 0),(1,Pz 1),(4,oB o1_2),(14,oM (b1.an.Spec.ad.map bo)),(15,oI (b1.an.Spec.ad.length:Int)),(16,oI (o1_3:Int))],(hM b0 b1 e2 e3 e4 o1_0 o1_1 b1.aq [])⟩∧F89_l1 b0 b1 (b1.an.Spec.ad.drop o1_3) o1_3 o1_0 o1_1 o1_2=XC o1) (b1.an.Spec.ad.length-0) i5 ⟨0,b1.an.ae.ad,b1.aK,XG,⟨hk.1,rfl⟩,rfl,h⟩ ?_
  rintro _ _ ⟨o1_3,o1_0,o1_1,o1_2,⟨hi,rfl⟩,rfl,h⟩
  refine ww ?_
  refine dq (fun c2=>?_) (fun c2=>?_)
  ·obtain⟨xo1,hxo1,hd⟩:=cW (show(o1_3:Int)<(b1.an.Spec.ad.length:Int)from c2)
   rw[hd,F89_l1]at h
   refine ww ?_
   obtain⟨o3,ho,h⟩:=bi h
   refine bD (fun s=>s=⟨[(0,Pz 0),(1,Pz 1),(4,oB o3.2.2),(14,oM (b1.an.Spec.ad.map bo)),(15,oI (b1.an.Spec.ad.length:Int)),(16,oI (o1_3:Int))],(hM b0 b1 e2 e3 e4 o3.1 o3.2.1 b1.aq [])⟩) ?_ ?_
   ·have h:=ho
    refine ww ?_
    refine bI (enc:=bo) (xs:=b1.an.Spec.ad) rfl rfl hxo1 rfl (ww ?_)
    obtain⟨y4,hy4,h⟩:=bi h
    refine tO (enc:=aC) (xs:=o1_0) rfl rfl rfl hy4 (ww ?_)
    obtain⟨o5,ho,h⟩:=bi h
    refine bD (fun s=>s=⟨[(0,Pz 0),(1,Pz 1),(4,oB o1_2),(6,Pz 5),(7,oc (.pe 2 e2 (((o1_3:Int)).toNat) 0)),(14,oM (b1.an.Spec.ad.map bo)),(15,oI (b1.an.Spec.ad.length:Int)),(16,oI (o1_3:Int))],(hM b0 b1 e2 e3 e4 o5.1 o5.2 b1.aq [xb (fG xo1)])⟩) ?_ ?_
    ·have h:=ho
     refine ww ?_
     obtain⟨o6,ho,h⟩:=bi h
     refine bD (fun s=>s=⟨[(0,Pz 0),(1,Pz 1),(4,oB o1_2),(5,oI (o1_3:Int)),(6,Pz 5),(7,oc (.pe 2 e2 (((o1_3:Int)).toNat) 0)),(14,oM (b1.an.Spec.ad.map bo)),(15,oI (b1.an.Spec.ad.length:Int)),(16,oI (o1_3:Int)),(29,oB o6)],(hM b0 b1 e2 e3 e4 o1_0 o1_1 b1.aq [xb (fG xo1)])⟩) ?_ ?_
     ·have h:=ho
      refine ww ?_
      refine cD.rd (aQ hy4).2.1 (ww ?_)
      refine bR h (fun g7 h=>ww ?_) (fun g7 h=>ww ?_)
      ·obtain⟨t8,ht8,h⟩:=bi h
       have qx:=q2 (cb hxo1) (cb hy4)
       refine cQ [0] (F63_ok ht8) (ww ?_)
       cases h
       have qx:=q2 (cb hxo1) (cb hy4)
       exact fI i6 rfl
      cases h
      have qx:=q2 (cb hxo1) (cb hy4)
      exact fI i6 rfl
     rintro _ rfl
     refine ww ?_
     refine ct h (fun c9 h=>ww ?_) (fun c9 h=>ww ?_)
     ·obtain⟨t10,ht10,h⟩:=bi h
      have qx:=q2 (cb hxo1) (cb hy4)
      refine cQ [0,1,2,3,4] (F137_ok (e2:=e2) (e3:=e3) (e4:=e4) ht10) (ww ?_)
      cases h
      have qx:=q4 (F137_len2 ht10) (F137_len3 ht10) (cb hxo1) (cb hy4)
      exact fI i6 rfl
     obtain⟨o11,ho,h⟩:=bi h
     refine bD (fun s=>s=⟨[(0,Pz 0),(1,Pz 1),(4,oB o1_2),(5,oI (o1_3:Int)),(6,Pz 5),(7,oc (.pe 2 e2 (((o1_3:Int)).toNat) 0)),(14,oM (b1.an.Spec.ad.map bo)),(15,oI (b1.an.Spec.ad.length:Int)),(16,oI (o1_3:Int)),(45,oB o11)],(hM b0 b1 e2 e3 e4 o1_0 o1_1 b1.aq [xb (fG xo1)])⟩) ?_ ?_
     ·have h:=ho
      refine ww ?_
      refine cD.rd (aQ hy4).2.1 (ww ?_)
      refine bR h (fun g12 h=>ww ?_) (fun g12 h=>ww ?_)
      ·obtain⟨t13,ht13,h⟩:=bi h
       have qx:=q2 (cb hxo1) (cb hy4)
       refine cQ [0,1,2,3,4] (F138_ok (e2:=e2) (e3:=e3) (e4:=e4) ht13) (ww ?_)
       cases h
       have qx:=q2 (cb hxo1) (cb hy4)
       exact fI i6 rfl
      cases h
      have qx:=q2 (cb hxo1) (cb hy4)
      exact fI i6 rfl
     rintro _ rfl
     refine ww ?_
     refine ct h (fun c14 h=>ww ?_) (fun c14 h=>ww ?_)
     ·obtain⟨t15,ht15,h⟩:=bi h
      have qx:=q2 (cb hxo1) (cb hy4)
      refine cQ [0,1,2,3,4] (F137_ok (e2:=e2) (e3:=e3) (e4:=e4) ht15) (ww ?_)
      obtain⟨y16,hy16,h⟩:=bi h
      refine cD.rd (aQ hy16).2.1 (ww ?_)
      refine eu.rd (y':=(⟨y16.aV,y16.bH,(XF.wrap (y16.bk+1)),y16.bM,y16.dZ,y16.bd,y16.Started⟩:ag)) (aQ hy16).2.1 (by simp[EE.down]) (by first|rfl|(simp only[b5];rfl)) (ww ?_)
      cases h
      have qx:=q5 (F137_len2 ht15) (F137_len3 ht15) (cb hxo1) (cb hy4) (cb hy16)
      exact fI i6 rfl
     cases h
     have qx:=q2 (cb hxo1) (cb hy4)
     exact fI i6 rfl
    rintro _ rfl
    refine ww ?_
    obtain⟨y17,hy17,h⟩:=bi h
    obtain⟨o18,ho,h⟩:=bi h
    refine bD (fun s=>s=⟨[(0,Pz 0),(1,Pz 1),(4,oB o1_2),(7,oc (.pe 2 e2 (((o1_3:Int)).toNat) 0)),(14,oM (b1.an.Spec.ad.map bo)),(15,oI (b1.an.Spec.ad.length:Int)),(16,oI (o1_3:Int))],(hM b0 b1 e2 e3 e4 o18 o5.2 b1.aq [])⟩) ?_ ?_
    ·have h:=ho
     refine ww ?_
     obtain⟨o19,ho,h⟩:=bi h
     refine bD (fun s=>s=⟨[(0,Pz 0),(1,Pz 1),(4,oB o1_2),(7,oc (.pe 2 e2 (((o1_3:Int)).toNat) 0)),(14,oM (b1.an.Spec.ad.map bo)),(15,oI (b1.an.Spec.ad.length:Int)),(16,oI (o1_3:Int)),(78,oB o19)],(hM b0 b1 e2 e3 e4 o5.1 o5.2 b1.aq [])⟩) ?_ ?_
     ·have h:=ho
      refine ww ?_
      refine cD.rd (aQ hy17).2.1 (ww ?_)
      refine bR h (fun g20 h=>ww ?_) (fun g20 h=>ww ?_)
      ·cases h
       have qx:=q3 (cb hxo1) (cb hy4) (cb hy17)
       exact fI i5 rfl
      cases h
      have qx:=q3 (cb hxo1) (cb hy4) (cb hy17)
      exact fI i5 rfl
     rintro _ rfl
     refine ww ?_
     refine ct h (fun c21 h=>ww ?_) (fun c21 h=>ww ?_)
     ·refine cD.rd (aQ hy17).2.1 (ww ?_)
      refine eu.rd (y':=(⟨y17.aV,y17.bH,y17.bk,y17.bM,y17.dZ,y17.Started,y17.Started⟩:ag)) (aQ hy17).2.1 (by simp[EE.down]) (by first|rfl|(simp only[b5];rfl)) (ww ?_)
      cases h
      have qx:=q3 (cb hxo1) (cb hy4) (cb hy17)
      exact fI i5 rfl
     cases h
     have qx:=q3 (cb hxo1) (cb hy4) (cb hy17)
     exact fI i5 rfl
    rintro _ rfl
    refine ww ?_
    obtain⟨y22,hy22,h⟩:=bi h
    refine dK h (fun g23 h=>ww ?_) (fun g23 h=>ww ?_)
    ·refine cD.rd (aQ hy22).2.1 (ww ?_)
     refine bR h (fun g24 h=>ww ?_) (fun g24 h=>ww ?_)
     ·refine cD.rd (aQ hy22).2.1 (ww ?_)
      cases h
      have qx:=q4 (cb hxo1) (cb hy4) (cb hy17) (cb hy22)
      exact fI i5 rfl
     cases h
     have qx:=q4 (cb hxo1) (cb hy4) (cb hy17) (cb hy22)
     exact fI i5 rfl
    cases h
    have qx:=q4 (cb hxo1) (cb hy4) (cb hy17) (cb hy22)
    exact fI i5 rfl
   rintro _ rfl
   refine ww ?_
   rw[cL (by omega)]
   exact jo (b1.an.Spec.ad.length-(o1_3+1)) i5 ⟨o1_3+1,o3.1,o3.2.1,o3.2.2,⟨by omega,rfl⟩,rfl,h⟩ (by omega)
  rw[cX (show¬((o1_3:Int)<(b1.an.Spec.ad.length:Int))from c2),F89_l1]at h
  refine ww ?_
  cases h
  exact eM i5 rfl
 rintro _ rfl
 refine ww ?_
 obtain⟨t26,ht26,h⟩:=bi h
 refine cB (F139_ok ht26) rfl ?_
 refine ww ?_
 obtain⟨o27,ho,h⟩:=bi h
 refine bD (fun s=>s=⟨[(0,Pz 0),(1,Pz 1),(4,oB o27),(8,oc (.pt 1 23))],[xb (cj b0),xb (lA b1 (dI t26) (ow 2 e2 o1.1) (ow 3 e3 o1.2.1) (ow 4 e4 b1.aq)),aE e2 o1.1,aU e3 o1.2.1,bQ e4 b1.aq]⟩) ?_ ?_
 ·have h:=ho
  refine ww ?_
  refine dK h (fun g28 h=>ww ?_) (fun g28 h=>ww ?_)
  ·cases h
   exact eM i5 rfl
  cases h
  exact eM i5 rfl
 rintro _ rfl
 refine ww ?_
 obtain⟨o29,ho,h⟩:=bi h
 refine bD (fun s=>s=⟨[(0,Pz 0),(1,Pz 1),(4,oB o27),(8,oc (.pt 1 23))],[xb (cj b0),xb (tW b1 (dI t26) (dI o29) (ow 2 e2 o1.1) (ow 3 e3 o1.2.1) (ow 4 e4 b1.aq)),aE e2 o1.1,aU e3 o1.2.1,bQ e4 b1.aq]⟩) ?_ ?_
 ·have h:=ho
  refine ww ?_
  obtain⟨o30,ho,h⟩:=bi h
  refine bD (fun s=>s=⟨[(0,Pz 0),(1,Pz 1),(4,oB o27),(8,oc (.pt 1 23)),(134,oB o30)],[xb (cj b0),xb (lA b1 (dI t26) (ow 2 e2 o1.1) (ow 3 e3 o1.2.1) (ow 4 e4 b1.aq)),aE e2 o1.1,aU e3 o1.2.1,bQ e4 b1.aq]⟩) ?_ ?_
  ·have h:=ho
   refine ww ?_
   refine dK h (fun g31 h=>ww ?_) (fun g31 h=>ww ?_)
   ·cases h
    exact eM i5 rfl
   cases h
   exact eM i5 rfl
  rintro _ rfl
  refine ww ?_
  refine ct h (fun c32 h=>ww ?_) (fun c32 h=>ww ?_)
  ·cases h
   exact eM i5 rfl
  cases h
  exact eM i5 rfl
 rintro _ rfl
 refine ww ?_
 obtain⟨t33,ht33,h⟩:=bi h
 refine cB (F62_ok ht33) rfl ?_
 refine ww ?_
 refine ct h (fun c34 h=>ww ?_) (fun c34 h=>ww ?_)
 ·cases h
  exact eF i5
 cases h
 exact eF i5
def F68_l1(x1:Int):Nat→(List aw)→Int→Int→Option ((List aw)×Int)
 |0,_,_,_=>XD
 |k+1,o1_0,o1_1,o1_2=>(if o1_2≤x1 then(F113 o1_0 o1_1 o1_2).bind fun t3=>F68_l1 x1 k t3 o1_2 ((XF.wrap (o1_2+20)))else XC ((o1_0,o1_1)))
def F68_l7(o5_1:Int)(x1:Int):Nat→(List aw)→Int→Int→Option ((List aw)×Int)
 |0,_,_,_=>XD
 |k+1,o7_0,o7_1,o7_2=>(if o7_2≤x1 then(F114k 1099511627776 o7_0 o7_1 ((XF.wrap (o7_1+o5_1))) o7_2).bind fun t9=>F68_l7 o5_1 x1 k t9 o7_2 ((XF.wrap (o7_2+((XF.wrap (2*o5_1))))))else XC ((o7_0,o7_1)))
def F68_l5(x1:Int):Nat→(List aw)→Int→Option ((List aw))
 |0,_,_=>XD
 |k+1,o5_0,o5_1=>(if o5_1<x1 then((F68_l7 o5_1 x1 1099511627776 o5_0 0 ((XF.wrap (2*o5_1)))).bind fun o7=>(((if(XF.wrap (o7.2+o5_1))<x1 then(F114k 1099511627776 o7.1 o7.2 ((XF.wrap (o7.2+o5_1))) x1).bind fun t12=>XC t12 else XC o7.1)).bind fun o10=>F68_l5 x1 k o10 ((XF.wrap (o5_1*2)))))else XC o5_0)
def F68i(x0:(List aw))(x1:Int):Option ((List aw)):=((F68_l1 x1 1099511627776 x0 0 20).bind fun o1=>(F113 o1.1 o1.2 x1).bind fun t4=>((F68_l5 x1 1099511627776 t4 20).bind fun o5=>XC o5))
def F68(x0:(List aw))(x1:Int):Option ((List aw)):=(F68i x0 x1).bind fun r=>if r.length=x0.length then XC r else XD
theorem F68_len0{x0:(List aw)}{x1:Int}{r:(List aw)}(h:F68 x0 x1=XC r):r.length=x0.length:=(bp h).2
def a68:dG:=⟨63,[],
 (.seq (.reg [Qe 6 20])
 (.seq (.reg [Qa 10 6,
Qe 7 0,
Qa 8 10])
 (.seq (.sem (.block 0 (.loop (.seq (.seq (.reg [Qa 11 8,
Qa 12 1,
sq 13 (.bin .leq (.t 11) (.t 12))])
 (.cond (.t 13)
 .skip
 (.exit 0)))
 (.block 1 (.seq (.reg [Qa 14 0,
Qa 15 7,
Qa 16 8,
Qa 17 2,
zl 18 (.call 113 [(.t 14),(.t 15),(.t 16),(.t 17)]) [] []])
 (.seq (.reg [Qa 19 8,
Qa 7 19])
 (.reg [Qa 20 8,
Qa 21 6,
sq 22 (.bin .add (.t 20) (.t 21)),
Qa 8 22]))))))))
 (.seq (.reg [Qa 23 0,
Qa 24 7,
Qa 25 1,
Qa 26 2,
zl 27 (.call 113 [(.t 23),(.t 24),(.t 25),(.t 26)]) [] []])
 (.sem (.block 2 (.loop (.seq (.seq (.reg [Qa 28 6,
Qa 29 1,
Qn 30 28 29])
 (.cond (.t 30)
 .skip
 (.exit 2)))
 (.block 3 (.seq (.reg [Qa 31 6,
sq 32 (.bin .mul (kI 2) (.t 31)),
Qe 7 0,
Qa 8 32])
 (.seq (.sem (.block 4 (.loop (.seq (.seq (.reg [Qa 33 8,
Qa 34 1,
sq 35 (.bin .leq (.t 33) (.t 34))])
 (.cond (.t 35)
 .skip
 (.exit 4)))
 (.block 5 (.seq (.reg [Qa 36 0,
Qa 37 7,
Qa 38 7,
Qa 39 6,
sq 40 (.bin .add (.t 38) (.t 39)),
Qa 41 8,
Qa 42 2,
zl 43 (.call 114 [(.t 36),(.t 37),(.t 40),(.t 41),(.t 42)]) [] []])
 (.seq (.reg [Qa 44 8,
Qa 7 44])
 (.reg [Qa 45 8,
Qa 46 6,
sq 47 (.bin .mul (kI 2) (.t 46)),
sq 48 (.bin .add (.t 45) (.t 47)),
Qa 8 48]))))))))
 (.seq (.sem (.seq (.reg [Qa 49 7,
Qa 50 6,
sq 51 (.bin .add (.t 49) (.t 50)),
Qa 9 51])
 (.seq (.reg [Qa 52 9,
Qa 53 1,
Qn 54 52 53])
 (.cond (.t 54)
 (.reg [Qa 55 0,
Qa 56 7,
Qa 57 9,
Qa 58 1,
Qa 59 2,
zl 60 (.call 114 [(.t 55),(.t 56),(.t 57),(.t 58),(.t 59)]) [] []])
 .skip))))
 (.reg [Qa 61 6,
sq 62 (.bin .mul (.t 61) (kI 2)),
Qa 6 62])))))))))))))⟩
theorem F68_ok{x0 x1 r}{e0:Nat}(h:F68 x0 x1=XC r):aW Tryz.prog 68 [.c (ow 0 e0 x0),.c (dI x1),.c (.fn 31 [])] [ba e0 x0] (bJ []) [ba e0 r]:=by
 replace h:=(bp h).1
 rw[F68i]at h
 refine zc a68 (by kernel_rfl) rfl (ww ?_)
 obtain⟨o1,ho,h⟩:=bi h
 refine bD (fun s=>s=⟨[(0,oc (ow 0 e0 o1.1)),(1,oI x1),(2,oc (.fn 31 [])),(6,oI 20),(7,oI o1.2)],[ba e0 o1.1]⟩) ?_ ?_
 ·have h:=ho
  refine ww ?_
  refine bL (fun j s=>∃(o1_0:List aw) (o1_1:Int) (o1_2:Int),s=⟨[(0,oc (ow 0 e0 o1_0)),(1,oI x1),(2,oc (.fn 31 [])),(6,oI 20),(7,oI o1_1),(8,oI o1_2)],[ba e0 o1_0]⟩∧F68_l1 x1 j o1_0 o1_1 o1_2=XC o1) 1099511627776 [XC 0] ⟨x0,0,20,rfl,h⟩ ?_
  rintro j _ ⟨o1_0,o1_1,o1_2,rfl,h⟩
  cases j with
  |zero=>cases(show(XD:Option _)=XC _ from h)
  |succ j=>
   rw[F68_l1]at h
   refine ww ?_
   refine bG h (fun c2 h=>ww ?_) (fun c2 h=>?_)
   ·obtain⟨t3,ht3,h⟩:=bi h
    refine cN [0] (F113_ok (e0:=e0) ht3) ⟨⟨rfl,trivial⟩,trivial⟩ ?_
    refine ww ?_
    have qx:=q1 (F113_len0 ht3)
    exact iI j [XC 0] ⟨t3,o1_2,(XF.wrap (o1_2+20)),rfl,h⟩ (XI _)
   ·refine ww ?_
    cases h
    exact eM [XC 0] rfl
 rintro _ rfl
 refine ww ?_
 obtain⟨t4,ht4,h⟩:=bi h
 refine cN [0] (F113_ok (e0:=e0) ht4) ⟨⟨rfl,trivial⟩,trivial⟩ ?_
 refine ww ?_
 obtain⟨o5,ho,h⟩:=bi h
 refine bD (fun s=>s=⟨[],[ba e0 o5]⟩) ?_ ?_
 ·have h:=ho
  refine ww ?_
  have qx:=q1 (F113_len0 ht4)
  refine Ph (fun j s=>∃(o5_0:List aw) (o5_1:Int),s=⟨[(0,oc (ow 0 e0 o5_0)),(1,oI x1),(2,oc (.fn 31 [])),(6,oI o5_1)],[ba e0 o5_0]⟩∧F68_l5 x1 j o5_0 o5_1=XC o5) 1099511627776 [XC 0] ⟨t4,20,rfl,h⟩ ?_
  rintro j _ ⟨o5_0,o5_1,rfl,h⟩
  cases j with
  |zero=>cases(show(XD:Option _)=XC _ from h)
  |succ j=>
   rw[F68_l5]at h
   refine ww ?_
   refine bG h (fun c6 h=>ww ?_) (fun c6 h=>?_)
   ·obtain⟨o7,ho,h⟩:=bi h
    refine bD (fun s=>s=⟨[(0,oc (ow 0 e0 o7.1)),(1,oI x1),(2,oc (.fn 31 [])),(6,oI o5_1),(7,oI o7.2)],[ba e0 o7.1]⟩) ?_ ?_
    ·have h:=ho
     refine ww ?_
     have qx:=q1 (F113_len0 ht4)
     refine Ph (fun j s=>∃(o7_0:List aw) (o7_1:Int) (o7_2:Int),s=⟨[(0,oc (ow 0 e0 o7_0)),(1,oI x1),(2,oc (.fn 31 [])),(6,oI o5_1),(7,oI o7_1),(8,oI o7_2)],[ba e0 o7_0]⟩∧F68_l7 o5_1 x1 j o7_0 o7_1 o7_2=XC o7) 1099511627776 [XC 0] ⟨o5_0,0,(XF.wrap (2*o5_1)),rfl,h⟩ ?_
     rintro j _ ⟨o7_0,o7_1,o7_2,rfl,h⟩
     cases j with
     |zero=>cases(show(XD:Option _)=XC _ from h)
     |succ j=>
      rw[F68_l7]at h
      refine ww ?_
      refine bG h (fun c8 h=>ww ?_) (fun c8 h=>?_)
      ·obtain⟨t9,ht9,h⟩:=bi h
       have qx:=q1 (F113_len0 ht4)
       refine cQ [0] (F114k_ok 1099511627776 (e0:=e0) ht9) (ww ?_)
       have qx:=q2 (F113_len0 ht4) (F114k_len0 ht9)
       exact iI j [XC 0] ⟨t9,o7_2,(XF.wrap (o7_2+((XF.wrap (2*o5_1))))),rfl,h⟩ (XI _)
      ·refine ww ?_
       cases h
       have qx:=q1 (F113_len0 ht4)
       exact fI [XC 0] rfl
    ·rintro _ rfl
     refine ww ?_
     obtain⟨o10,ho,h⟩:=bi h
     refine bD (fun s=>s=⟨[(0,oc (ow 0 e0 o10)),(1,oI x1),(2,oc (.fn 31 [])),(6,oI o5_1)],[ba e0 o10]⟩) ?_ ?_
     ·have h:=ho
      refine ww ?_
      refine bG h (fun c11 h=>ww ?_) (fun c11 h=>?_)
      ·obtain⟨t12,ht12,h⟩:=bi h
       have qx:=q1 (F113_len0 ht4)
       refine cQ [0] (F114k_ok 1099511627776 (e0:=e0) ht12) (ww ?_)
       cases h
       have qx:=q2 (F113_len0 ht4) (F114k_len0 ht12)
       exact fI [XC 0] rfl
      ·refine ww ?_
       cases h
       have qx:=q1 (F113_len0 ht4)
       exact fI [XC 0] rfl
     ·rintro _ rfl
      refine ww ?_
      have qx:=q1 (F113_len0 ht4)
      exact iI j [XC 0] ⟨o10,(XF.wrap (o5_1*2)),rfl,h⟩ (XI _)
   ·refine ww ?_
    cases h
    have qx:=q1 (F113_len0 ht4)
    exact fI [XC 0] rfl
 rintro _ rfl
 refine ww ?_
 cases h
 have qx:=q1 (F113_len0 ht4)
 exact tg [XC 0]
def F43e_l1:List au→Nat→(List gZ)→(List Int)→Option ((List gZ)×(List Int))
 |[],o1_2,o1_0,o1_1=>XC ((o1_0,o1_1))
 |xo1::xs,o1_2,o1_0,o1_1=>(((F10062 xo1).bind fun t4=>(if(nb t4)=XG then(jz o1_0 ([xo1.an])).bind fun a6=>(F83 xo1.an.Spec).bind fun t7=>(jz o1_1 ([(t7).aG])).bind fun a8=>XC ((a6,a8))else XC ((o1_0,o1_1)))).bind fun o3=>F43e_l1 xs (o1_2+1) o3.1 o3.2)
def JC:AC:=(.seq (.reg [Qa 33 0,
Qb 34 0 33,
Qb 35 0 34,
Qb 36 25 35,
Qd 37 36,
Qh 38 37,
Qe 39 0])
 (.sem (.block 0 (.loop (.seq (.reg [Qn 40 39 38])
 (.seq (.cond (.t 40)
 .skip
 (.exit 0))
 (.seq (.sem (.block 1 (.seq (.reg [Qp 41 36 37 39,
Qc 42 36 41,
sq 7 (.zbox Fk),
su (.store 36 (.t 7) (.t 42))])
 (.seq (.reg [Qc 43 36 7,
Qk 44 62 43,
Qq 45 44])
 (.cond (.t 45)
 (.seq (.reg [Qa 46 4,
Qb 47 0 7,
Qc 48 32 47,
sq 49 (.bslice 32 [(.t 48)]),
sq 50 (.app 32 480 (.t 46) (.t 49)),
Qa 4 50])
 (.reg [Qa 51 5,
Qb 52 0 7,
Qb 53 13 52,
Qc 54 10 53,
Qk 55 83 54,
sq 56 (.field 1 XD (.t 55)),
sq 57 (.bslice 1 [(.t 56)]),
sq 58 (.app 1 8 (.t 51) (.t 57)),
Qa 5 58]))
 .skip)))))
 (.reg [Qm 59 39 1,
Qa 39 59]))))))))
def F43e(e1:Nat)(b0:aj)(pods:List au):Option ((List gZ)×(List Int)):=(((ck (0≤pods.length∧pods.length≤4294967290)).bind fun u9=>F43e_l1 pods 0 ([]) ([])).bind fun o1=>XC ((o1.1,o1.2)))
theorem F43e_ok{e1 b0 pods r}(h:F43e e1 b0 pods=XC r):sK Tryz.prog 118 2 JC [] (sM 118 2 (fun s=>s=⟨[(0,Pz 0),(4,oc (ow 2 0 r.1)),(5,oc (ow 3 0 r.2))],[xb (aA b0 (ow 1 e1 pods)),ai e1 pods,vn 0 r.1,xa 0 r.2]⟩) (xQ 118 2 (fun _ _=>False) (fun _=>False)))
 ⟨[(0,Pz 0),(4,oc (dN)),(5,oc (dN))],[xb (aA b0 (ow 1 e1 pods)),ai e1 pods]⟩:=by
 rw[F43e]at h
 unfold JC
 refine ww ?_
 obtain⟨o1,ho,h⟩:=bi h
 refine bD (fun s=>s=⟨[(0,Pz 0),(4,oc (ow 2 0 o1.1)),(5,oc (ow 3 0 o1.2))],[xb (aA b0 (ow 1 e1 pods)),ai e1 pods,vn 0 o1.1,xa 0 o1.2]⟩) ?_ ?_
 ·have h:=ho
  obtain⟨_,hk,h⟩:=bi h
  have hk:=cr hk
  refine ww ?_
  refine bL (fun j s=>∃(o1_2:Nat) (o1_0:List gZ) (o1_1:List Int),(o1_2≤pods.length∧j=pods.length-o1_2)∧s=⟨[(0,Pz 0),(4,oc (ow 2 0 o1_0)),(5,oc (ow 3 0 o1_1)),(37,oc (ow 1 e1 pods)),(38,oI (pods.length:Int)),(39,oI (o1_2:Int))],[xb (aA b0 (ow 1 e1 pods)),ai e1 pods,vn 0 o1_0,xa 0 o1_1]⟩∧F43e_l1 (pods.drop o1_2) o1_2 o1_0 o1_1=XC o1) (pods.length-0) [XC 0,XC 1,XD,XD] ⟨0,[],[],⟨hk.1,rfl⟩,rfl,h⟩ ?_
  rintro _ _ ⟨o1_2,o1_0,o1_1,⟨hi,rfl⟩,rfl,h⟩
  refine ww ?_
  refine dq (fun c2=>?_) (fun c2=>?_)
  ·obtain⟨xo1,hxo1,hd⟩:=cW (show(o1_2:Int)<(pods.length:Int)from c2)
   rw[hd,F43e_l1]at h
   refine ww ?_
   obtain⟨o3,ho,h⟩:=bi h
   refine bD (fun s=>s=⟨[(0,Pz 0),(4,oc (ow 2 0 o3.1)),(5,oc (ow 3 0 o3.2)),(37,oc (ow 1 e1 pods)),(38,oI (pods.length:Int)),(39,oI (o1_2:Int))],[xb (aA b0 (ow 1 e1 pods)),ai e1 pods,vn 0 o3.1,xa 0 o3.2]⟩) ?_ ?_
   ·have h:=ho
    refine ww ?_
    refine tO (enc:=aS) (xs:=pods) rfl rfl rfl hxo1 (ww ?_)
    refine cD.rd (aQ hxo1).2.1 (ww ?_)
    obtain⟨t4,ht4,h⟩:=bi h
    have qx:=q1 (cb hxo1)
    refine cQ [] (F10062_ok ht4) (ww ?_)
    refine ct h (fun c5 h=>ww ?_) (fun c5 h=>?_)
    ·refine tB (enc:=ja) (ys:=[xo1.an]) rfl rfl (ww ?_)
     obtain⟨a6,ha6,h⟩:=bi h
     have qx:=q1 (cb hxo1)
     refine Me (enc:=ja) (xs:=o1_0) rfl rfl rfl ha6 (ww ?_)
     obtain⟨t7,ht7,h⟩:=bi h
     have qx:=q1 (cb hxo1)
     refine cQ [] (F83_ok ht7) (ww ?_)
     refine tB (enc:=eI) (ys:=[(t7).aG]) rfl rfl (ww ?_)
     obtain⟨a8,ha8,h⟩:=bi h
     have qx:=q1 (cb hxo1)
     refine Me (enc:=eI) (xs:=o1_1) rfl rfl rfl ha8 (ww ?_)
     cases h
     have qx:=q1 (cb hxo1)
     exact fI i4 rfl
    ·refine ww ?_
     cases h
     have qx:=q1 (cb hxo1)
     exact fI i4 rfl
   ·rintro _ rfl
    refine ww ?_
    rw[cL (by omega)]
    exact jo (pods.length-(o1_2+1)) i4 ⟨o1_2+1,o3.1,o3.2,⟨by omega,rfl⟩,rfl,h⟩ (by omega)
  ·rw[cX (show¬((o1_2:Int)<(pods.length:Int))from c2),F43e_l1]at h
   refine ww ?_
   cases h
   exact eM i4 rfl
 ·rintro _ rfl
  refine ww ?_
  cases h
  exact eM i4 rfl
def wH:AC:=(.seq (.reg [Qa 93 0,
Qa 94 12,
zl 95 (.call 85 [(.t 93),(.t 94)]) [] []])
 (.seq (.reg [Qa 96 12,
Qb 97 0 96,
Qb 98 0 97,
Qb 99 23 98,
Qa 13 99])
 (.reg [Qa 100 13,
Qa 101 13,
Qa 102 13,
Qa 103 13,
Qa 104 0,
Qb 105 0 104,
Qb 106 0 105,
Qb 107 24 106,
Qd 108 107,
Qb 109 0 100,
Qb 110 0 109,
su (.store 1 (.t 110) (kI 3)),
Qb 111 0 101,
Qb 112 8 111,
su (.store 1 (.t 112) (kS ⟨#[69,118,105,99,116,101,100]⟩)),
Qb 113 0 102,
Qb 114 4 113,
su (.store 1 (.t 114) (.t 108)),
Qb 115 0 103,
Qb 116 1 115,
su (.store 1 (.t 116) (kB XH))])))
def F30043f(e1:Nat)(b0:aj)(dd:List au)(ks:List ByteArray)(i:Int)(x:af):Option ((List ag)×(List cp)):=(F85 b0 x).bind fun t1=>XC ((t1.1,t1.2))
theorem F30043f_ok{e1 b0 dd ks i x r}(h:F30043f e1 b0 dd ks i x=XC r):sK Tryz.prog 118 4 wH [] (sM 118 4 (fun s=>s=⟨[(0,Pz 0),(74,oc (ow 2 0 ks)),(75,oI (ks.length:Int)),(76,oI i)],[xb (cj b0),ai e1 dd,iS 0 ks,xb (BJ x (dI 3) (dB XH) (dI b0.ah.cl) (ow 4 0 r.1) (dS ((⟨#[69,118,105,99,116,101,100]⟩:ByteArray))) (ow 5 0 x.aK) (ow 6 0 r.2)),aE 0 r.1,aU 0 x.aK,bQ 0 r.2]⟩) (xQ 118 4 (fun _ _=>False) (fun _=>False)))
 ⟨[(0,Pz 0),(12,Pz 3),(74,oc (ow 2 0 ks)),(75,oI (ks.length:Int)),(76,oI i)],[xb (cj b0),ai e1 dd,iS 0 ks,xb (bj x (ow 4 0 x.an.ae.ad) (ow 5 0 x.aK) (ow 6 0 x.aq)),aE 0 x.an.ae.ad,aU 0 x.aK,bQ 0 x.aq]⟩:=by
 rw[F30043f]at h
 unfold wH
 refine ww ?_
 obtain⟨t1,ht1,h⟩:=bi h
 refine cN [0,3,4,5,6] (F85_ok (e2:=0) (e3:=0) (e4:=0) ht1) ⟨⟨(by first|rfl|(simp only[List.length_set];rfl)),by simp[bw.live,C.live,hp]⟩,⟨⟨(by first|rfl|(simp only[List.length_set];rfl)),by simp[bw.live,C.live,hp]⟩,⟨⟨rfl,trivial⟩,⟨⟨rfl,trivial⟩,⟨⟨rfl,trivial⟩,trivial⟩⟩⟩⟩⟩ ?_
 refine ww ?_
 cases h
 have qx:=q2 (F85_len2 ht1) (F85_len4 ht1)
 exact fI i7 rfl
end Go.Proofs.YtojbebejhgbfeaaGreat
