/- Each Go function as a function over typed data, and its walk. -/
import Derived.Test.YtojbebejhgbfeaaGreatW0
import Derived.Test.YtojbebejhgbfeaaGreatW6
import Derived.Test.YtojbebejhgbfeaaGreatW7
import Derived.Test.YtojbebejhgbfeaaGreatW8
import Derived.Test.YtojbebejhgbfeaaGreatW9
open Go.IntKind renaming i64->XC,u64->XD
open Option renaming some->XF,none->XG
open Bool renaming false->XH,true->XI
open Nat renaming lt_succ_self->XJ
open Go.Proofs.Tryz renaming prog->XK
namespace Go.Proofs.YtojbebejhgbfeaaGreat
open Go Go.Fw Go.Shelf
set_option maxRecDepth 100000
set_option maxHeartbeats 4000000
set_option linter.unusedSimpArgs false
set_option linter.unusedVariables false
def F86_l1(b0:aj)(b1:af)(x2:Int):Nat→(List aF)→Int→Option ((List aF))
 |0,_,_=>XG
 |k+1,o1_0,o1_1=>(if o1_1<3 then(((cI b1.an.Spec.ad x2).bind fun y4=>(F124 y4 o1_1).bind fun t5=>(if 0<(t5.length:Int)then(cI t5 0).bind fun y7=>(F135 y7 b0.ah.cl).bind fun t8=>XF t8 else XF 0)).bind fun o3=>(cI o1_0 ((XC.wrap (((XC.wrap (3*x2)))+o1_1)))).bind fun y9=>F86_l1 b0 b1 x2 k ((o1_0.set ((XC.wrap (((XC.wrap (3*x2)))+o1_1))).toNat ((⟨0,0,XH,o3⟩:aF)))) ((XC.wrap (o1_1+1))))else XF o1_0)
def F86i(x2:Int)(b0:aj)(b1:af):Option ((List aF)):=((F86_l1 b0 b1 x2 1099511627776 b1.aK 0).bind fun o1=>XF o1)
def F86(x2:Int)(b0:aj)(b1:af):Option ((List aF)):=(F86i x2 b0 b1).bind fun r=>if r.length=b1.aK.length then XF r else XG
theorem F86_len3{x2:Int}{b0:aj}{b1:af}{r:(List aF)}(h:F86 x2 b0 b1=XF r):r.length=b1.aK.length:=(bp h).2
def a86:dG:=⟨46,[],
 (.seq (.reg [Qe 9 0])
 (.sem (.block 0 (.loop (.seq (.reg [sq 10 (.bin .lss (.t 9) (kI 3))])
 (.seq (.cond (.t 10)
 .skip
 (.exit 0))
 (.seq (.block 1 (.seq (.reg [Qa 11 9,
Qa 6 11])
 (.seq (.reg [zl 7 (.zbox [dI 0,dI 0,dB XH,dI 0]) [] []])
 (.seq (.sem (.seq (.reg [Qa 12 1,
Qb 13 0 12,
Qb 14 0 13,
Qb 15 13 14,
Qb 16 4 15,
Qd 17 16,
Qa 18 2,
Qp 19 11 17 18,
Qc 20 11 19,
Qa 21 6,
Ql 22 124 20 21,
Qa 8 22])
 (.seq (.reg [Qa 23 8,
Qh 24 23,
sq 25 (.bin .gtr (.t 24) (kI 0))])
 (.cond (.t 25)
 (.regd [Qa 26 8,
sd 27 (.indexA 4 (.t 26) (kI 0)) [0],
sd 28 (.load (XF 4) (.t 27)) [0,1],
Qa 29 0,
sd 30 (.fieldA 0 (.t 29)) [3],
sd 31 (.fieldA 0 (.t 30)) [3,4],
sd 32 (.fieldA 24 (.t 31)) [3,4,5],
sd 33 (.load XG (.t 32)) [3,4,5,6],
zl 34 (.call 135 [(.t 28),(.t 33)]) [0,1,2,3,4,5,6,7] [],
⟨XG,XG,.store 4 (.t 7) (.t 34),[0,1,2,3,4,5,6,7,8],(.lone [])⟩])
 .skip))))
 (.regd [Qa 35 1,
sd 36 (.fieldA 0 (.t 35)) [0],
sd 37 (.fieldA 32 (.t 36)) [0,1],
sd 38 (.load XG (.t 37)) [0,1,2],
Qa 39 2,
sd 40 (.bin .mul (kI 3) (.t 39)) [4],
Qa 41 6,
sd 42 (.bin .add (.t 40) (.t 41)) [4,5,6],
Qc 43 4 7,
sd 44 (.indexA 4 (.t 38) (.t 42)) [0,1,2,3,4,5,6,7,8],
⟨XG,XG,.store 4 (.t 44) (.t 43),[0,1,2,3,4,5,6,7,8,9],(.lone [])⟩])))))
 (.reg [Qm 45 9 1,
Qa 9 45]))))))))⟩
theorem F86_ok{x2 b0 b1 r}{e2:Nat}{e3:Nat}{e4:Nat}(h:F86 x2 b0 b1=XF r):aW XK 86 [.c (.pt 0 0),.c (.pt 1 0),.c (dI x2)] (hM b0 b1 e2 e3 e4 b1.an.ae.ad b1.aK b1.aq []) (bJ []) (hM b0 b1 e2 e3 e4 b1.an.ae.ad r b1.aq []):=by
 replace h:=(bp h).1
 rw[F86i]at h
 refine zc a86 (by kernel_rfl) rfl (ww ?_)
 obtain⟨o1,ho,h⟩:=bi h
 refine bD (fun s=>s=⟨[],(hM b0 b1 e2 e3 e4 b1.an.ae.ad o1 b1.aq [])⟩) ?_ ?_
 ·have h:=ho
  refine ww ?_
  refine bL (fun j s=>∃(o1_0:List aF) (o1_1:Int),s=⟨[(0,Pz 0),(1,Pz 1),(2,oI x2),(9,oI o1_1)],(hM b0 b1 e2 e3 e4 b1.an.ae.ad o1_0 b1.aq [])⟩∧F86_l1 b0 b1 x2 j o1_0 o1_1=XF o1) 1099511627776 i5 ⟨b1.aK,0,rfl,h⟩ ?_
  rintro j _ ⟨o1_0,o1_1,rfl,h⟩
  cases j with
  |zero=>cases(show(XG:Option _)=XF _ from h)
  |succ j=>
   rw[F86_l1]at h
   refine ww ?_
   refine bG h (fun c2 h=>ww ?_) (fun c2 h=>?_)
   ·obtain⟨o3,ho,h⟩:=bi h
    refine bD (fun s=>s=⟨[(0,Pz 0),(1,Pz 1),(2,oI x2),(6,oI o1_1),(7,Pz 5),(9,oI o1_1)],(hM b0 b1 e2 e3 e4 b1.an.ae.ad o1_0 b1.aq [xb [dI 0,dI 0,dB XH,dI o3]])⟩) ?_ ?_
    ·have h:=ho
     refine ww ?_
     obtain⟨y4,hy4,h⟩:=bi h
     refine bI (enc:=bo) (xs:=b1.an.Spec.ad) rfl rfl hy4 rfl (ww ?_)
     obtain⟨t5,ht5,h⟩:=bi h
     refine cN [] (F124_ok ht5) trivial (ww ?_)
     refine bG h (fun c6 h=>ww ?_) (fun c6 h=>?_)
     ·obtain⟨y7,hy7,h⟩:=bi h
      refine bI (enc:=el) (xs:=t5) rfl rfl hy7 rfl (ww ?_)
      obtain⟨t8,ht8,h⟩:=bi h
      refine cN [] (F135_ok ht8) trivial (ww ?_)
      cases h
      exact eM i6 rfl
     ·refine ww ?_
      cases h
      exact eM i6 rfl
    ·rintro _ rfl
     refine ww ?_
     obtain⟨y9,hy9,h⟩:=bi h
     refine tO (enc:=cu) (xs:=o1_0) rfl rfl rfl hy9 (ww ?_)
     refine eu.rd (y':=(⟨0,0,XH,o3⟩:aF)) (aQ hy9).2.1 (by simp[EE.down]) (by first|rfl|(simp only[b5];rfl)) (ww ?_)
     have qx:=q1 (bc hy9)
     exact iI j i5 ⟨(o1_0.set ((XC.wrap (((XC.wrap (3*x2)))+o1_1))).toNat ((⟨0,0,XH,o3⟩:aF))),(XC.wrap (o1_1+1)),rfl,h⟩ (XJ _)
   ·refine ww ?_
    cases h
    exact eM i5 rfl
 rintro _ rfl
 refine ww ?_
 cases h
 exact eF i5
def F137i(x2:Int)(b0:aj)(b1:af):Option ((List ag)×(List aF)):=(cI b1.an.ae.ad x2).bind fun y1=>(cI b1.an.Spec.ad x2).bind fun y2=>(F86 x2 b0 ((⟨(⟨b1.an.ak,b1.an.Spec,(⟨b1.an.ae.bC,b1.an.ae.bd,b1.an.ae.bf,b1.an.ae.Started,b1.an.ae.bu,(((((((((b1.an.ae.ad.set x2.toNat ((⟨y1.aV,1,y1.bk,y1.bM,y1.dZ,y1.bd,y1.Started⟩:ag)))).set x2.toNat ((⟨y1.aV,1,y1.bk,y1.bM,b0.ah.cl,y1.bd,y1.Started⟩:ag)))).set x2.toNat ((⟨y1.aV,1,y1.bk,0,b0.ah.cl,y1.bd,y1.Started⟩:ag)))).set x2.toNat ((⟨y1.aV,1,y1.bk,0,b0.ah.cl,y1.bd,decide ((y2.dt.length:Int)=0)⟩:ag)))).set x2.toNat ((⟨y1.aV,1,y1.bk,0,b0.ah.cl,XH,(decide ((y2.dt.length:Int)=0))⟩:ag))),b1.an.ae.bS,b1.an.ae.bg,b1.an.ae.b7⟩:cK)⟩:an),b1.aK,b1.aq,b1.bh,b1.bK⟩:af))).bind fun t3=>XF (((((((((((b1.an.ae.ad.set x2.toNat ((⟨y1.aV,1,y1.bk,y1.bM,y1.dZ,y1.bd,y1.Started⟩:ag)))).set x2.toNat ((⟨y1.aV,1,y1.bk,y1.bM,b0.ah.cl,y1.bd,y1.Started⟩:ag)))).set x2.toNat ((⟨y1.aV,1,y1.bk,0,b0.ah.cl,y1.bd,y1.Started⟩:ag)))).set x2.toNat ((⟨y1.aV,1,y1.bk,0,b0.ah.cl,y1.bd,decide ((y2.dt.length:Int)=0)⟩:ag)))).set x2.toNat ((⟨y1.aV,1,y1.bk,0,b0.ah.cl,XH,(decide ((y2.dt.length:Int)=0))⟩:ag))),t3))
def F137(x2:Int)(b0:aj)(b1:af):Option ((List ag)×(List aF)):=(F137i x2 b0 b1).bind fun r=>if r.1.length=b1.an.ae.ad.length∧r.2.length=b1.aK.length then XF r else XG
theorem F137_len2{x2:Int}{b0:aj}{b1:af}{r:(List ag)×(List aF)}(h:F137 x2 b0 b1=XF r):r.1.length=b1.an.ae.ad.length:=(bp h).2.1
theorem F137_len3{x2:Int}{b0:aj}{b1:af}{r:(List ag)×(List aF)}(h:F137 x2 b0 b1=XF r):r.2.length=b1.aK.length:=(bp h).2.2
def a137:dG:=⟨51,[],
 (.seq (.reg [Qa 7 1,
Qb 8 0 7,
Qb 9 0 8,
Qb 10 23 9,
Qb 11 5 10,
Qd 12 11,
Qa 13 2,
Qp 14 7 12 13,
Qa 6 14])
 (.seq (.reg [Qa 15 6,
Qa 16 6,
Qa 17 6,
Qa 18 0,
Qb 19 0 18,
Qb 20 0 19,
Qb 21 24 20,
Qd 22 21,
Qb 23 0 15,
Qb 24 1 23,
su (.store 1 (.t 24) (kI 1)),
Qb 25 0 16,
Qb 26 4 25,
su (.store 1 (.t 26) (.t 22)),
Qb 27 0 17,
Qb 28 3 27,
su (.store 1 (.t 28) (kI 0))])
 (.seq (.reg [Qa 29 6,
Qa 30 6,
Qa 31 1,
Qb 32 0 31,
Qb 33 0 32,
Qb 34 13 33,
Qb 35 4 34,
Qd 36 35,
Qa 37 2,
Qp 38 11 36 37,
Qb 39 10 38,
Qd 40 39,
Qh 41 40,
Qr 42 41 0,
Qb 43 0 29,
Qb 44 6 43,
su (.store 1 (.t 44) (.t 42)),
Qb 45 0 30,
Qb 46 5 45,
su (.store 1 (.t 46) (kB XH))])
 (.reg [Qa 47 0,
Qa 48 1,
Qa 49 2,
zl 50 (.call 86 [(.t 47),(.t 48),(.t 49)]) [] []]))))⟩
theorem F137_ok{x2 b0 b1 r}{e2:Nat}{e3:Nat}{e4:Nat}(h:F137 x2 b0 b1=XF r):aW XK 137 [.c (.pt 0 0),.c (.pt 1 0),.c (dI x2)] (hM b0 b1 e2 e3 e4 b1.an.ae.ad b1.aK b1.aq []) (bJ []) (hM b0 b1 e2 e3 e4 r.1 r.2 b1.aq []):=by
 replace h:=(bp h).1
 rw[F137i]at h
 refine zc a137 (by kernel_rfl) rfl (ww ?_)
 obtain⟨y1,hy1,h⟩:=bi h
 refine tO (enc:=aC) (xs:=b1.an.ae.ad) rfl rfl rfl hy1 (ww ?_)
 refine eu.rd (y':=(⟨y1.aV,1,y1.bk,y1.bM,y1.dZ,y1.bd,y1.Started⟩:ag)) (aQ hy1).2.1 (by simp[EE.down]) (by first|rfl|(simp only[b5];rfl)) (ww ?_)
 refine eu.rd (y':=(⟨y1.aV,1,y1.bk,y1.bM,b0.ah.cl,y1.bd,y1.Started⟩:ag)) (aQ (eE hy1)).2.1 (by simp[EE.down]) (by first|rfl|(simp only[b5];rfl)) (ww ?_)
 refine eu.rd (y':=(⟨y1.aV,1,y1.bk,0,b0.ah.cl,y1.bd,y1.Started⟩:ag)) (aQ (eE (eE hy1))).2.1 (by simp[EE.down]) (by first|rfl|(simp only[b5];rfl)) (ww ?_)
 obtain⟨y2,hy2,h⟩:=bi h
 refine bI (enc:=bo) (xs:=b1.an.Spec.ad) rfl rfl hy2 rfl (ww ?_)
 refine eu.rd (y':=(⟨y1.aV,1,y1.bk,0,b0.ah.cl,y1.bd,decide ((y2.dt.length:Int)=0)⟩:ag)) (aQ (eE (eE (eE hy1)))).2.1 (by simp[EE.down]) (by first|rfl|(simp only[b5];rfl)) (ww ?_)
 refine eu.rd (y':=(⟨y1.aV,1,y1.bk,0,b0.ah.cl,XH,(decide ((y2.dt.length:Int)=0))⟩:ag)) (aQ (eE (eE (eE (eE hy1))))).2.1 (by simp[EE.down]) (by first|rfl|(simp only[b5];rfl)) (ww ?_)
 obtain⟨t3,ht3,h⟩:=bi h
 have qx:=q2 (bc hy1) (bc hy2)
 refine cQ [0,1,2,3,4] (F86_ok (e2:=e2) (e3:=e3) (e4:=e4) ht3) (ww ?_)
 cases h
 have qx:=q3 (F86_len3 ht3) (bc hy1) (bc hy2)
 exact tg i5
def F77(x0:au)(x1:ByteArray):Option (Int):=(F74 x0.an.ak).bind fun t1=>(F32 t1 x1).bind fun t2=>XF t2
def a77:dG:=⟨11,[(.tmp 4)],
 (.seq (.reg [Qg 2 0,
Qe 4 0])
 (.seq (.reg [Qb 5 0 2,
Qb 6 0 5,
Qc 7 13 6,
Qk 8 74 7,
Qa 9 1,
Ql 10 32 8 9,
Qa 4 10])
 .ret))⟩
theorem F77_ok{x0 x1 r}(h:F77 x0 x1=XF r):aW XK 77 [.agg (cv x0),.c (dS x1)] [] (bJ [.c (dI r)]) []:=by
 rw[F77]at h
 refine zc a77 (by kernel_rfl) rfl (ww ?_)
 obtain⟨t1,ht1,h⟩:=bi h
 refine cN [] (F74_ok ht1) trivial (ww ?_)
 obtain⟨t2,ht2,h⟩:=bi h
 refine cN [] (F32_ok ht2) trivial (ww ?_)
 cases h
 exact eF []
def F76_l1(x0:(List au))(x1:ByteArray):Nat→Int→Int→Option (Int)
 |0,_,_=>XG
 |k+1,o1_0,o1_1=>(if o1_0<o1_1 then(cI x0 ((XC.wrap ((fi .u64 ((XD.wrap ((XC.wrap (o1_0+o1_1))))) 1))))).bind fun y3=>(F77 y3 x1).bind fun t4=>(if t4<0 then F76_l1 x0 x1 k ((XC.wrap (((XC.wrap ((fi .u64 ((XD.wrap ((XC.wrap (o1_0+o1_1))))) 1))))+1))) o1_1 else F76_l1 x0 x1 k o1_0 ((XC.wrap ((fi .u64 ((XD.wrap ((XC.wrap (o1_0+o1_1))))) 1)))))else XF o1_0)
def F76(x0:(List au))(x1:ByteArray):Option (Int×Bool):=((F76_l1 x0 x1 1099511627776 0 ((x0.length:Int))).bind fun o1=>(((if o1<(x0.length:Int)then(cI x0 o1).bind fun y8=>(F77 y8 x1).bind fun t9=>XF (decide (t9=0))else XF XH)).bind fun o6=>XF ((o1,o6))))
def a76:dG:=⟨49,[(.tmp 6),(.tmp 7)],
 (.seq (.reg [Qe 6 0,
Qf 7 XH])
 (.seq (.reg [Qa 12 0,
Qh 13 12,
Qa 8 13])
 (.seq (.reg [Qa 14 8,
Qe 9 0,
Qa 10 14])
 (.seq (.sem (.block 0 (.loop (.seq (.seq (.reg [Qa 15 9,
Qa 16 10,
Qn 17 15 16])
 (.cond (.t 17)
 .skip
 (.exit 0)))
 (.block 1 (.seq (.reg [Qa 18 9,
Qa 19 10,
sq 20 (.bin .add (.t 18) (.t 19)),
sq 21 (.conv .u64 (.t 20)),
sq 22 (.bin .shr (.t 21) (.k (.c (.d (.v (.int .u64 1)))))),
sq 23 (.conv .i64 (.t 22)),
Qa 11 23])
 (.seq (.reg [Qa 24 2,
Qa 25 0,
Qa 26 11,
Qp 27 36 25 26,
Qc 28 36 27,
Qa 29 1,
sq 30 (.callv (.t 24) [(.t 28),(.t 29)]),
sq 31 (.bin .lss (.t 30) (kI 0))])
 (.cond (.t 31)
 (.reg [Qa 32 11,
Qm 33 32 1,
Qa 9 33])
 (.reg [Qa 34 11,
Qa 10 34])))))))))
 (.seq (.sem (.reg [Qa 35 9,
Qa 36 9,
Qa 37 8,
Qn 38 36 37,
Qa 39 38,
Qv 40 39 XI 2,
Qv 41 39 XI 0,
Qv 42 39 XI 9,
zg 43 39 XI (.indexA 36 (.t 41) (.t 42)),
Qu 44 39 XI 36 43,
Qv 45 39 XI 1,
zg 46 39 XI (.callv (.t 40) [(.t 44),(.t 45)]),
zg 47 39 XI (.bin .eql (.t 46) (kI 0)),
Qi 48 39 47,
Qa 6 35,
Qa 7 48]))
 .ret)))))⟩
theorem F76_ok{x0 x1 r}(h:F76 x0 x1=XF r):aW XK 76 [.c (dM (x0.map aS)),.c (dS x1),.c (.fn 77 [])] [] (bJ [.c (dI r.1),.c (dB r.2)]) []:=by
 rw[F76]at h
 refine zc a76 (by kernel_rfl) rfl (ww ?_)
 obtain⟨o1,ho,h⟩:=bi h
 refine bD (fun s=>s=⟨[(0,oM (x0.map aS)),(1,oS x1),(2,oc (.fn 77 [])),(8,oI (x0.length:Int)),(9,oI o1)],[]⟩) ?_ ?_
 ·have h:=ho
  refine ww ?_
  refine bL (fun j s=>∃(o1_0:Int) (o1_1:Int),s=⟨[(0,oM (x0.map aS)),(1,oS x1),(2,oc (.fn 77 [])),(8,oI (x0.length:Int)),(9,oI o1_0),(10,oI o1_1)],[]⟩∧F76_l1 x0 x1 j o1_0 o1_1=XF o1) 1099511627776 [] ⟨0,(x0.length:Int),rfl,h⟩ ?_
  rintro j _ ⟨o1_0,o1_1,rfl,h⟩
  cases j with
  |zero=>cases(show(XG:Option _)=XF _ from h)
  |succ j=>
   rw[F76_l1]at h
   refine ww ?_
   refine bG h (fun c2 h=>ww ?_) (fun c2 h=>?_)
   ·refine⟨by decide,?_⟩
    refine ww ?_
    obtain⟨y3,hy3,h⟩:=bi h
    refine bI (enc:=aS) (xs:=x0) rfl rfl hy3 rfl (ww ?_)
    obtain⟨t4,ht4,h⟩:=bi h
    refine cN [] (F77_ok ht4) trivial (ww ?_)
    refine bG h (fun c5 h=>ww ?_) (fun c5 h=>?_)
    ·exact jo j [] ⟨(XC.wrap (((XC.wrap ((fi .u64 ((XD.wrap ((XC.wrap (o1_0+o1_1))))) 1))))+1)),o1_1,rfl,h⟩ (XJ _)
    ·refine ww ?_
     exact jo j [] ⟨o1_0,(XC.wrap ((fi .u64 ((XD.wrap ((XC.wrap (o1_0+o1_1))))) 1))),rfl,h⟩ (XJ _)
   ·refine ww ?_
    cases h
    exact eM [] rfl
 rintro _ rfl
 refine ww ?_
 obtain⟨o6,ho,h⟩:=bi h
 refine bD (fun s=>s=⟨[(6,oI o1),(7,oB o6)],[]⟩) ?_ ?_
 ·have h:=ho
  refine ww ?_
  refine bR h (fun g7 h=>ww ?_) (fun g7 h=>ww ?_)
  ·obtain⟨y8,hy8,h⟩:=bi h
   refine bI (enc:=aS) (xs:=x0) rfl rfl hy8 rfl (ww ?_)
   obtain⟨t9,ht9,h⟩:=bi h
   refine cN [] (F77_ok ht9) trivial (ww ?_)
   cases h
   exact eM [] rfl
  cases h
  exact eM [] rfl
 rintro _ rfl
 refine ww ?_
 cases h
 exact eF []
def F31(x0:aw)(x1:aw):Option (Int):=(F32 x0.aV x1.aV).bind fun t1=>XF t1
def a31:dG:=⟨10,[(.tmp 4)],
 (.seq (.reg [Qg 2 0,
Qg 3 1,
Qe 4 0])
 (.seq (.reg [Qb 5 0 2,
Qd 6 5,
Qb 7 0 3,
Qd 8 7,
Ql 9 32 6 8,
Qa 4 9])
 .ret))⟩
theorem F31_ok{x0 x1 r}(h:F31 x0 x1=XF r):aW XK 31 [.agg (lf x0),.agg (lf x1)] [] (bJ [.c (dI r)]) []:=by
 rw[F31]at h
 refine zc a31 (by kernel_rfl) rfl (ww ?_)
 obtain⟨t1,ht1,h⟩:=bi h
 refine cN [] (F32_ok ht1) trivial (ww ?_)
 cases h
 exact eF []
def F113_l3(x1:Int):Nat→(List aw)→Int→Option ((List aw))
 |0,_,_=>XG
 |k+1,o3_0,o3_1=>(((if x1<o3_1 then(cI o3_0 o3_1).bind fun y6=>(cI o3_0 ((XC.wrap (o3_1-1)))).bind fun y7=>(F31 y6 y7).bind fun t8=>XF (decide (t8<0))else XF XH)).bind fun o4=>(if o4=XI then(cI o3_0 ((XC.wrap (o3_1-1)))).bind fun y10=>(cI o3_0 o3_1).bind fun y11=>(cI ((o3_0.set o3_1.toNat y10)) ((XC.wrap (o3_1-1)))).bind fun y12=>F113_l3 x1 k ((((o3_0.set o3_1.toNat y10)).set ((XC.wrap (o3_1-1))).toNat y11)) ((XC.wrap (o3_1-1)))else XF o3_0))
def F113_l1(x1:Int)(x2:Int):Nat→(List aw)→Int→Option ((List aw))
 |0,_,_=>XG
 |k+1,o1_0,o1_1=>(if o1_1<x2 then((F113_l3 x1 1099511627776 o1_0 o1_1).bind fun o3=>F113_l1 x1 x2 k o3 ((XC.wrap (o1_1+1))))else XF o1_0)
def F113i(x0:(List aw))(x1:Int)(x2:Int):Option ((List aw)):=((F113_l1 x1 x2 1099511627776 x0 ((XC.wrap (x1+1)))).bind fun o1=>XF o1)
def F113(x0:(List aw))(x1:Int)(x2:Int):Option ((List aw)):=(F113i x0 x1 x2).bind fun r=>if r.length=x0.length then XF r else XG
theorem F113_len0{x0:(List aw)}{x1:Int}{x2:Int}{r:(List aw)}(h:F113 x0 x1 x2=XF r):r.length=x0.length:=(bp h).2
def a113:dG:=⟨53,[],
 (.seq (.reg [Qa 10 1,
Qm 11 10 1,
Qa 8 11])
 (.sem (.block 0 (.loop (.seq (.seq (.reg [Qa 12 8,
Qa 13 2,
Qn 14 12 13])
 (.cond (.t 14)
 .skip
 (.exit 0)))
 (.seq (.block 1 (.seq (.reg [Qa 17 8,
Qa 9 17])
 (.sem (.block 2 (.loop (.seq (.seq (.sem (.regd [Qa 18 9,
Qa 19 1,
sd 20 (.bin .gtr (.t 18) (.t 19)) [0,1],
sd 21 (.mv (.t 20)) [0,1,2],
⟨(XF 22),(XF (21,XI)),.mv (.t 3),[0,1,2,3],(.new [])⟩,
⟨(XF 23),(XF (21,XI)),.mv (.t 0),[0,1,2,3],(.new [])⟩,
⟨(XF 24),(XF (21,XI)),.mv (.t 9),[0,1,2,3],(.new [])⟩,
⟨(XF 25),(XF (21,XI)),.indexA 3 (.t 23) (.t 24),[0,1,2,3,5,6],(.new [])⟩,
⟨(XF 26),(XF (21,XI)),.load (XF 3) (.t 25),[0,1,2,3,5,6,7],(.new [])⟩,
⟨(XF 27),(XF (21,XI)),.mv (.t 0),[0,1,2,3],(.new [])⟩,
⟨(XF 28),(XF (21,XI)),.mv (.t 9),[0,1,2,3],(.new [])⟩,
⟨(XF 29),(XF (21,XI)),.bin .sub (.t 28) (kI 1),[0,1,2,3,10],(.new [])⟩,
⟨(XF 30),(XF (21,XI)),.indexA 3 (.t 27) (.t 29),[0,1,2,3,9,10,11],(.new [])⟩,
⟨(XF 31),(XF (21,XI)),.load (XF 3) (.t 30),[0,1,2,3,9,10,11,12],(.new [])⟩,
⟨(XF 32),(XF (21,XI)),.callv (.t 22) [(.t 26),(.t 31)],[0,1,2,3,4,5,6,7,8,9,10,11,12,13],(.lone [])⟩,
⟨(XF 33),(XF (21,XI)),.bin .lss (.t 32) (kI 0),[0,1,2,3,4,5,6,7,8,9,10,11,12,13,14],(.new [])⟩,
zl 34 (.pick (.t 21) (.t 33) (kB XH)) [0,1,2,3,4,5,6,7,8,9,10,11,12,13,14,15] []]))
 (.cond (.t 34)
 .skip
 (.exit 2)))
 (.seq (.block 3 (.regd [Qa 37 0,
Qa 38 9,
Qa 39 0,
Qa 40 9,
sd 41 (.bin .sub (.t 40) (kI 1)) [3],
Qa 42 0,
Qa 43 9,
sd 44 (.bin .sub (.t 43) (kI 1)) [6],
sd 45 (.indexA 3 (.t 42) (.t 44)) [5,6,7],
sd 46 (.load (XF 3) (.t 45)) [5,6,7,8],
Qa 47 0,
Qa 48 9,
sd 49 (.indexA 3 (.t 47) (.t 48)) [10,11],
sd 50 (.load (XF 3) (.t 49)) [10,11,12],
sd 51 (.indexA 3 (.t 37) (.t 38)) [0,1,5,6,7,8,9,10,11,12,13],
⟨XG,XG,.store 3 (.t 51) (.t 46),[0,1,5,6,7,8,9,10,11,12,13,14],(.lone [])⟩,
sd 52 (.indexA 3 (.t 39) (.t 41)) [0,1,2,3,4,5,6,7,8,9,10,11,12,13,14,15],
⟨XG,XG,.store 3 (.t 52) (.t 50),[0,1,2,3,4,5,6,7,8,9,10,11,12,13,14,15,16],(.lone [])⟩]))
 (.reg [Qa 35 9,
sq 36 (.bin .sub (.t 35) (kI 1)),
Qa 9 36]))))))))
 (.reg [Qa 15 8,
Qm 16 15 1,
Qa 8 16])))))))⟩
theorem F113_ok{x0 x1 x2 r}{e0:Nat}(h:F113 x0 x1 x2=XF r):aW XK 113 [.c (ow 0 e0 x0),.c (dI x1),.c (dI x2),.c (.fn 31 [])] [ba e0 x0] (bJ []) [ba e0 r]:=by
 replace h:=(bp h).1
 rw[F113i]at h
 refine zc a113 (by kernel_rfl) rfl (ww ?_)
 obtain⟨o1,ho,h⟩:=bi h
 refine bD (fun s=>s=⟨[],[ba e0 o1]⟩) ?_ ?_
 ·have h:=ho
  refine ww ?_
  refine bL (fun j s=>∃(o1_0:List aw) (o1_1:Int),s=⟨[(0,oc (ow 0 e0 o1_0)),(1,oI x1),(2,oI x2),(3,oc (.fn 31 [])),(8,oI o1_1)],[ba e0 o1_0]⟩∧F113_l1 x1 x2 j o1_0 o1_1=XF o1) 1099511627776 [XF 0] ⟨x0,(XC.wrap (x1+1)),rfl,h⟩ ?_
  rintro j _ ⟨o1_0,o1_1,rfl,h⟩
  cases j with
  |zero=>cases(show(XG:Option _)=XF _ from h)
  |succ j=>
   rw[F113_l1]at h
   refine ww ?_
   refine bG h (fun c2 h=>ww ?_) (fun c2 h=>?_)
   ·obtain⟨o3,ho,h⟩:=bi h
    refine bD (fun s=>s=⟨[(0,oc (ow 0 e0 o3)),(1,oI x1),(2,oI x2),(3,oc (.fn 31 [])),(8,oI o1_1)],[ba e0 o3]⟩) ?_ ?_
    ·have h:=ho
     refine ww ?_
     refine bL (fun j s=>∃(o3_0:List aw) (o3_1:Int),s=⟨[(0,oc (ow 0 e0 o3_0)),(1,oI x1),(2,oI x2),(3,oc (.fn 31 [])),(8,oI o1_1),(9,oI o3_1)],[ba e0 o3_0]⟩∧F113_l3 x1 j o3_0 o3_1=XF o3) 1099511627776 [XF 0] ⟨o1_0,o1_1,rfl,h⟩ ?_
     rintro j _ ⟨o3_0,o3_1,rfl,h⟩
     cases j with
     |zero=>cases(show(XG:Option _)=XF _ from h)
     |succ j=>
      rw[F113_l3]at h
      refine ww ?_
      obtain⟨o4,ho,h⟩:=bi h
      refine bD (fun s=>s=⟨[(0,oc (ow 0 e0 o3_0)),(1,oI x1),(2,oI x2),(3,oc (.fn 31 [])),(8,oI o1_1),(9,oI o3_1),(34,oB o4)],[ba e0 o3_0]⟩) ?_ ?_
      ·have h:=ho
       refine ww ?_
       refine ib h (fun g5 h=>ww ?_) (fun g5 h=>?_)
       ·obtain⟨y6,hy6,h⟩:=bi h
        refine tO (enc:=aR) (xs:=o3_0) rfl rfl rfl hy6 (ww ?_)
        refine cD.rd (aQ hy6).2.1 (ww ?_)
        obtain⟨y7,hy7,h⟩:=bi h
        have qx:=q1 (bc hy6)
        refine lV (enc:=aR) (xs:=o3_0) rfl rfl rfl hy7 (ww ?_)
        refine cD.rd (aQ hy7).2.1 (ww ?_)
        obtain⟨t8,ht8,h⟩:=bi h
        have qx:=q2 (bc hy6) (bc hy7)
        refine cQ [] (F31_ok ht8) (ww ?_)
        cases h
        have qx:=q2 (bc hy6) (bc hy7)
        exact fI [XF 0] rfl
       ·refine ww ?_
        cases h
        exact eM [XF 0] rfl
      ·rintro _ rfl
       refine ww ?_
       refine ct h (fun c9 h=>ww ?_) (fun c9 h=>?_)
       ·obtain⟨y10,hy10,h⟩:=bi h
        refine tO (enc:=aR) (xs:=o3_0) rfl rfl rfl hy10 (ww ?_)
        refine cD.rd (aQ hy10).2.1 (ww ?_)
        obtain⟨y11,hy11,h⟩:=bi h
        have qx:=q1 (bc hy10)
        refine lV (enc:=aR) (xs:=o3_0) rfl rfl rfl hy11 (ww ?_)
        refine cD.rd (aQ hy11).2.1 (ww ?_)
        have qx:=q2 (bc hy10) (bc hy11)
        refine lV (enc:=aR) (xs:=o3_0) rfl rfl rfl hy11 (ww ?_)
        refine eu.rd (y':=y10) (aQ hy11).2.1 (by simp[EE.down]) (by first|rfl|(simp only[b5];rfl)) (ww ?_)
        obtain⟨y12,hy12,h⟩:=bi h
        have qx:=q2 (bc hy10) (bc hy11)
        refine lV (enc:=aR) (xs:=((o3_0.set o3_1.toNat y10))) rfl rfl rfl hy12 (ww ?_)
        refine eu.rd (y':=y11) (aQ hy12).2.1 (by simp[EE.down]) (by first|rfl|(simp only[b5];rfl)) (ww ?_)
        have qx:=q3 (bc hy10) (bc hy11) (bc hy12)
        exact iI j [XF 0] ⟨(((o3_0.set o3_1.toNat y10)).set ((XC.wrap (o3_1-1))).toNat y11),(XC.wrap (o3_1-1)),rfl,h⟩ (XJ _)
       ·refine ww ?_
        cases h
        exact eM [XF 0] rfl
    ·rintro _ rfl
     refine ww ?_
     exact jo j [XF 0] ⟨o3,(XC.wrap (o1_1+1)),rfl,h⟩ (XJ _)
   ·refine ww ?_
    cases h
    exact eM [XF 0] rfl
 rintro _ rfl
 refine ww ?_
 cases h
 exact eF [XF 0]
def JH:AC:=(.regd [Qa 35 6,
sd 36 (.fieldA 0 (.t 35)) [0],
sd 37 (.load (XF 36) (.t 36)) [0,1],
Qb 38 3 3,
sd 39 (.load XG (.t 38)) [3],
zl 40 (.call 78 [(.t 37),(.t 39)]) [0,1,2,3,4] [],
sd 7 (.mv (.t 40)) [0,1,2,3,4,5]])
def F41e(e1:Nat)(b0:aj)(pods:List au)(v:aN)(k:Int):Option (Int):=(cI pods k).bind fun y1=>(F78 y1 v.aP).bind fun t2=>XF t2
theorem F41e_ok{e1 b0 pods v k r}(h:F41e e1 b0 pods v k=XF r):sK XK 83 2 JH [] (sM 83 2 (fun s=>s=⟨[(0,Pz 0),(3,Pz 2),(6,oc (.pe 1 e1 k.toNat 0)),(7,oI r)],[xb (aA b0 (ow 1 e1 pods)),ai e1 pods,xb (aZ v)]⟩) (xQ 83 2 (fun _ _=>False) (fun _=>False)))
 ⟨[(0,Pz 0),(3,Pz 2),(6,oc (.pe 1 e1 k.toNat 0))],[xb (aA b0 (ow 1 e1 pods)),ai e1 pods,xb (aZ v)]⟩:=by
 rw[F41e]at h
 unfold JH
 refine ww ?_
 obtain⟨y1,hy1,h⟩:=bi h
 refine cD.rd (aQ hy1).2.1 (ww ?_)
 obtain⟨t2,ht2,h⟩:=bi h
 have qx:=q1 (bc hy1)
 refine cQ [] (F78_ok ht2) (ww ?_)
 cases h
 have qx:=q1 (bc hy1)
 exact fI i3 rfl
def F30044f_l1(b0:aj)(x:af):List ag→Nat→(List aF)→Option ((List aF))
 |[],o1_1,o1_0=>XF o1_0
 |xo1::xs,o1_1,o1_0=>(((if xo1.bH=1 then(F86 ((o1_1:Int)) b0 ((⟨x.an,o1_0,x.aq,x.bh,x.bK⟩:af))).bind fun t5=>XF t5 else XF o1_0)).bind fun o3=>F30044f_l1 b0 x xs (o1_1+1) o3)
def wG:AC:=(.seq (.reg [Qa 22 3,
Qb 23 0 22,
Qb 24 0 23,
Qb 25 23 24,
Qb 26 5 25,
Qd 27 26,
Qh 28 27,
Qe 29 0])
 (.sem (.block 2 (.loop (.seq (.reg [Qn 30 29 28])
 (.seq (.cond (.t 30)
 .skip
 (.exit 2))
 (.seq (.sem (.block 3 (.seq (.reg [Qa 31 29,
Qp 32 7 27 29,
Qc 33 7 32,
sq 5 (.zbox [dS ⟨#[]⟩,dI 0,dI 0,dI 0,dI 0,dB XH,dB XH]),
Qa 4 31,
su (.store 7 (.t 5) (.t 33))])
 (.seq (.reg [Qb 34 1 5,
Qd 35 34,
Qr 36 35 1])
 (.cond (.t 36)
 (.reg [Qa 37 0,
Qa 38 3,
Qa 39 4,
zl 40 (.call 86 [(.t 37),(.t 38),(.t 39)]) [] []])
 .skip)))))
 (.reg [Qm 41 29 1,
Qa 29 41]))))))))
def F30044f(e1:Nat)(b0:aj)(dd:List au)(n:Int)(i:Int)(x:af):Option ((List aF)):=(((ck (0≤x.an.ae.ad.length∧x.an.ae.ad.length≤4294967290)).bind fun u6=>F30044f_l1 b0 x x.an.ae.ad 0 x.aK).bind fun o1=>XF o1)
theorem F30044f_ok{e1 b0 dd n i x r}(h:F30044f e1 b0 dd n i x=XF r):sK XK 43 3 wG [] (sM 43 3 (fun s=>s=⟨[(0,Pz 0),(11,oI n),(12,oI i)],[xb (cj b0),ai e1 dd,xb (bj x (ow 3 0 x.an.ae.ad) (ow 4 0 r) (ow 5 0 x.aq)),aE 0 x.an.ae.ad,aU 0 r,bQ 0 x.aq]⟩) (xQ 43 3 (fun _ _=>False) (fun _=>False)))
 ⟨[(0,Pz 0),(3,Pz 2),(11,oI n),(12,oI i)],[xb (cj b0),ai e1 dd,xb (bj x (ow 3 0 x.an.ae.ad) (ow 4 0 x.aK) (ow 5 0 x.aq)),aE 0 x.an.ae.ad,aU 0 x.aK,bQ 0 x.aq]⟩:=by
 rw[F30044f]at h
 unfold wG
 refine ww ?_
 obtain⟨o1,ho,h⟩:=bi h
 refine bD (fun s=>s=⟨[(0,Pz 0),(11,oI n),(12,oI i)],[xb (cj b0),ai e1 dd,xb (bj x (ow 3 0 x.an.ae.ad) (ow 4 0 o1) (ow 5 0 x.aq)),aE 0 x.an.ae.ad,aU 0 o1,bQ 0 x.aq]⟩) ?_ ?_
 ·have h:=ho
  obtain⟨_,hk,h⟩:=bi h
  have hk:=cr hk
  refine ww ?_
  refine bL (fun j s=>∃(o1_1:Nat) (o1_0:List aF),(o1_1≤x.an.ae.ad.length∧j=x.an.ae.ad.length-o1_1)∧s=⟨[(0,Pz 0),(3,Pz 2),(11,oI n),(12,oI i),(27,oc (ow 3 0 x.an.ae.ad)),(28,oI (x.an.ae.ad.length:Int)),(29,oI (o1_1:Int))],[xb (cj b0),ai e1 dd,xb (bj x (ow 3 0 x.an.ae.ad) (ow 4 0 o1_0) (ow 5 0 x.aq)),aE 0 x.an.ae.ad,aU 0 o1_0,bQ 0 x.aq]⟩∧F30044f_l1 b0 x (x.an.ae.ad.drop o1_1) o1_1 o1_0=XF o1) (x.an.ae.ad.length-0) i6 ⟨0,x.aK,⟨hk.1,rfl⟩,rfl,h⟩ ?_
  rintro _ _ ⟨o1_1,o1_0,⟨hi,rfl⟩,rfl,h⟩
  refine ww ?_
  refine dq (fun c2=>?_) (fun c2=>?_)
  ·obtain⟨xo1,hxo1,hd⟩:=cW (show(o1_1:Int)<(x.an.ae.ad.length:Int)from c2)
   rw[hd,F30044f_l1]at h
   refine ww ?_
   obtain⟨o3,ho,h⟩:=bi h
   refine bD (fun s=>s=⟨[(0,Pz 0),(3,Pz 2),(11,oI n),(12,oI i),(27,oc (ow 3 0 x.an.ae.ad)),(28,oI (x.an.ae.ad.length:Int)),(29,oI (o1_1:Int))],[xb (cj b0),ai e1 dd,xb (bj x (ow 3 0 x.an.ae.ad) (ow 4 0 o3) (ow 5 0 x.aq)),aE 0 x.an.ae.ad,aU 0 o3,bQ 0 x.aq]⟩) ?_ ?_
   ·have h:=ho
    refine ww ?_
    refine tO (enc:=aC) (xs:=x.an.ae.ad) rfl rfl rfl hxo1 (ww ?_)
    refine cD.rd (aQ hxo1).2.1 (ww ?_)
    refine bG h (fun c4 h=>ww ?_) (fun c4 h=>?_)
    ·obtain⟨t5,ht5,h⟩:=bi h
     have qx:=q1 (cb hxo1)
     refine cQ [0,2,3,4,5] (F86_ok (e2:=0) (e3:=0) (e4:=0) ht5) (ww ?_)
     cases h
     have qx:=q2 (F86_len3 ht5) (cb hxo1)
     exact fI i6 rfl
    ·refine ww ?_
     cases h
     have qx:=q1 (cb hxo1)
     exact fI i6 rfl
   ·rintro _ rfl
    refine ww ?_
    rw[cL (by omega)]
    exact jo (x.an.ae.ad.length-(o1_1+1)) i6 ⟨o1_1+1,o3,⟨by omega,rfl⟩,rfl,h⟩ (by omega)
  ·rw[cX (show¬((o1_1:Int)<(x.an.ae.ad.length:Int))from c2),F30044f_l1]at h
   refine ww ?_
   cases h
   exact eM i6 rfl
 ·rintro _ rfl
  refine ww ?_
  cases h
  exact eM i6 rfl
end Go.Proofs.YtojbebejhgbfeaaGreat
