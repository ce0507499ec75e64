/- Each Go function as a function over typed data, and its walk. -/
import Derived.Test.YtdkmamiedcanfaaGreatW0
import Derived.Test.YtdkmamiedcanfaaGreatW1
import Derived.Test.YtdkmamiedcanfaaGreatW2
import Derived.Test.YtdkmamiedcanfaaGreatW3
import Derived.Test.YtdkmamiedcanfaaGreatW4
import Derived.Test.YtdkmamiedcanfaaGreatW5
import Derived.Test.YtdkmamiedcanfaaGreatW6
namespace Go.Proofs.YtdkmamiedcanfaaGreat
open Go Go.Fw Go.Shelf
set_option maxRecDepth 100000
set_option maxHeartbeats 4000000
set_option linter.unusedSimpArgs false
set_option linter.unusedVariables false
def F52_l1(x1:ByteArray):List Object→Nat→Option ((Int) ⊕ (Unit))
 |[],o1_0=>some (Sum.inr (()))
 |xo1::xs,o1_0=>(F92 xo1).bind fun t3=>(if t3=x1 then(some ((o1_0:Int))).map Sum.inl else F52_l1 x1 xs (o1_0+1))
def F52(x0:(List Object))(x1:ByteArray):Option (Int):=(((ck (0≤x0.length∧x0.length≤4294967290)).bind fun u5=>F52_l1 x1 x0 0:Option ((Int) ⊕ (Unit))).bind fun o1=>match o1 with|Sum.inl f=>some f|Sum.inr po1=>some ((-1)))
def a52:AFn:=⟨20,[(.tmp 4)],
 (.seq (.reg [Qe 4 0])
 (.seq (.seq (.reg [Qe 5 0])
 (.sem (.block 0 (.loop (.seq (.seq (.reg [Qa 6 5,
Qa 7 0,
Qh 8 7,
Qn 9 6 8])
 (.cond (.t 9)
 .skip
 (.exit 0)))
 (.seq (.block 1 (.seq (.reg [Qa 12 0,
Qa 13 5,
Qp 14 23 12 13,
Qc 15 23 14,
Qk 16 92 15,
Qa 17 1,
sq 18 (.bin .eql (.t 16) (.t 17))])
 (.cond (.t 18)
 (.seq (.reg [Qa 19 5,
Qa 4 19])
 .ret)
 .skip)))
 (.reg [Qa 10 5,
Qm 11 10 1,
Qa 5 11])))))))
 (.seq (.reg [sq 4 (.mv (kI (-1)))])
 .ret)))⟩
theorem F52_ok{x0 x1 r}(h:F52 x0 x1=some r):An Tryz.prog 52 [.c (dM (x0.map Ad)),.c (dS x1)] [] (AL [.c (dI r)]) []:=by
 rw[F52]at h
 refine zc a52 (by kernel_rfl) rfl (ww ?_)
 obtain⟨o1,ho,h⟩:=bi h
 refine AB (fun s=>∃po1,o1=Sum.inr po1∧s=⟨[],[]⟩) ?_ ?_
 ·have h0o1:=h
  have h:=ho
  clear ho
  obtain⟨_,hk,h⟩:=bi h
  have hk:=AS hk
  refine ww ?_
  refine bL (fun j s=>∃(o1_0:Nat),(o1_0≤x0.length∧j=x0.length-o1_0)∧s=⟨[(0,oc (dM (x0.map Ad))),(1,oc (dS x1)),(5,oc (dI ((o1_0:Int))))],[]⟩∧F52_l1 x1 (x0.drop o1_0) o1_0=some o1) (x0.length-0) [] ⟨0,⟨hk.1,rfl⟩,rfl,h⟩ ?_
  rintro _ _ ⟨o1_0,⟨hi,rfl⟩,rfl,h⟩
  refine ww ?_
  refine Bg (fun c2=>?_) (fun c2=>?_)
  ·obtain⟨xo1,hxo1,hd⟩:=A5 (show(o1_0:Int)<(x0.length:Int)from c2)
   rw[hd,F52_l1]at h
   refine ww ?_
   refine Az (enc:=Ad) (xs:=x0) rfl rfl hxo1 rfl (ww ?_)
   obtain⟨t3,ht3,h⟩:=bi h
   refine cN [] (F92_ok ht3) trivial (ww ?_)
   refine AH h (fun c4 h=>ww ?_) (fun c4 h=>ww ?_)
   ·obtain⟨fh0o1,hfh0o1,rfl⟩:=Option.map_eq_some_iff.1 h
    have h:=hfh0o1.trans h0o1
    cases h
    exact eF []
   rw[AW (by omega)]
   exact eL' (x0.length-(o1_0+1)) [] ⟨o1_0+1,⟨by omega,rfl⟩,rfl,h⟩ (by omega)
  rw[A6 (show¬((o1_0:Int)<(x0.length:Int))from c2),F52_l1]at h
  refine ww ?_
  cases h
  exact eM [] ⟨_,rfl,rfl⟩
 rintro _ ⟨po1,rfl,rfl⟩
 clear ho
 dsimp only at h
 refine ww ?_
 cases h
 exact eF []
def F11_l1:List Object→Nat→(List (ByteArray×Object))→Option ((List (ByteArray×Object)))
 |[],o1_1,o1_0=>some o1_0
 |xo1::xs,o1_1,o1_0=>(F33 xo1.Meta).bind fun t3=>F11_l1 xs (o1_1+1) ((B2 t3 xo1 o1_0))
def F11_l5:List Event→Nat→Int→(List (ByteArray×Object))→Option (Int×(List (ByteArray×Object)))
 |[],o5_2,o5_0,o5_1=>some ((o5_0,o5_1))
 |xo5::xs,o5_2,o5_0,o5_1=>(((if xo5.Rev≤o5_0 then some ((o5_0,o5_1))else(F33 xo5.Object.Meta).bind fun t9=>(((if xo5.Bl=1 then some (decide (xo5.Bl=1))else some (decide (xo5.Bl=2)))).bind fun o10=>(if o10=true then some ((xo5.Rev,(B2 t9 xo5.Object o5_1)))else(if xo5.Bl=3 then some ((xo5.Rev,(HK t9 o5_1)))else some ((xo5.Rev,o5_1))))))).bind fun o7=>F11_l5 xs (o5_2+1) o7.1 o7.2)
def F11_l18(o5:Int×(List (ByteArray×Object)))(t17:List ByteArray):List ByteArray→Nat→(List Object)→Option ((List Object))
 |[],o18_1,o18_0=>some o18_0
 |xo18::xs,o18_1,o18_0=>(rdI t17 ((o18_1:Int))).bind fun y20=>(getM y20 o5.2).bind fun y21=>(F37 y21).bind fun t22=>(apI o18_0 ([(⟨(⟨y21.Meta.Kind,y21.Meta.Namespace,y21.Meta.Name,y21.Meta.Uid,y21.Meta.Version,y21.Meta.Ai,y21.Meta.Created,y21.Meta.Av,y21.Meta.Ar,t22.1,t22.2.1,t22.2.2.1,t22.2.2.2.1⟩:Meta),(⟨y21.Spec.Kind,y21.Spec.N,y21.Spec.S,t22.2.2.2.2.1,t22.2.2.2.2.2.1⟩:Ab),(⟨y21.Status.Kind,y21.Status.N,y21.Status.S,t22.2.2.2.2.2.2.1,t22.2.2.2.2.2.2.2⟩:Ab)⟩:Object)])).bind fun a23=>F11_l18 o5 t17 xs (o18_1+1) a23
def F11(x0:Cache)(x1:(List Event)):Option ((List Ah)×Int×(List Object)):=(((ck (0≤x0.Aa.length∧x0.Aa.length≤4294967290)).bind fun u4=>F11_l1 x0.Aa 0 ([])).bind fun o1=>(((ck (0≤x1.length∧x1.length≤4294967290)).bind fun u14=>F11_l5 x1 0 x0.Rev o1).bind fun o5=>(F34 x0.Filter).bind fun t15=>(F36 o5.2).bind fun t16=>(KR ((o5.2.map Prod.fst))).bind fun t17=>(((ck (0≤t17.length∧t17.length≤4294967290)).bind fun u24=>F11_l18 o5 t17 t17 0 ([])).bind fun o18=>some ((t15,o5.1,o18)))))
def a11:AFn:=⟨83,[(.cell 4 (some 6))],
 (.seq (.reg [Qg 2 0,
sq 4 (.zbox [dS ⟨#[]⟩,dS ⟨#[]⟩,dN,dI 0,dB false,dN])])
 (.seq (.reg [sq 13 (.mkmap),
Qa 5 13])
 (.seq (.seq (.reg [Qb 14 5 2,
Qd 15 14,
Qh 16 15,
Qe 17 0])
 (.sem (.block 0 (.loop (.seq (.reg [Qn 18 17 16])
 (.seq (.cond (.t 18)
 .skip
 (.exit 0))
 (.seq (.block 1 (.seq (.reg [Qp 19 23 15 17,
Qc 20 23 19,
sq 7 (.zbox [dS ⟨#[]⟩,dS ⟨#[]⟩,dS ⟨#[]⟩,dI 0,dI 0,dI 0,dI 0,dB false,dI 0,dN,dN,dN,dN,dI 0,dI 0,dS ⟨#[]⟩,dN,dN,dI 0,dI 0,dS ⟨#[]⟩,dN,dN]),
su (.store 23 (.t 7) (.t 20))])
 (.regd [Qa 21 5,
Qb 22 0 7,
sd 23 (.load (some 13) (.t 22)) [1],
zn 24 (.call 33 [(.t 23)]) [1,2] [1,2],
Qc 25 23 7,
⟨none,none,.mset 1 (.t 21) (.t 24) (.t 25),[0,1,2,3,4],(.lone [])⟩])))
 (.reg [Qm 26 17 1,
Qa 17 26]))))))))
 (.seq (.seq (.reg [Qa 27 1,
Qh 28 27,
Qe 29 0])
 (.sem (.block 2 (.loop (.seq (.reg [Qn 30 29 28])
 (.seq (.cond (.t 30)
 .skip
 (.exit 2))
 (.seq (.sem (.block 3 (.seq (.reg [Qp 31 25 27 29,
Qc 32 25 31,
sq 9 (.zbox [dI 0,dI 0,dS ⟨#[]⟩,dS ⟨#[]⟩,dS ⟨#[]⟩,dI 0,dI 0,dI 0,dI 0,dB false,dI 0,dN,dN,dN,dN,dI 0,dI 0,dS ⟨#[]⟩,dN,dN,dI 0,dI 0,dS ⟨#[]⟩,dN,dN]),
su (.store 25 (.t 9) (.t 32))])
 (.seq (.seq (.reg [Qb 33 1 9,
Qd 34 33,
Qb 35 3 2,
Qd 36 35,
sq 37 (.bin .leq (.t 34) (.t 36))])
 (.cond (.t 37)
 (.exit 3)
 .skip))
 (.seq (.reg [Qb 38 1 9,
Qd 39 38,
Qb 40 3 2,
⟨none,none,.store 1 (.t 40) (.t 39),[],(.lone [9,38,2])⟩])
 (.seq (.reg [Qb 41 2 9,
Qb 42 0 41,
Qc 43 13 42,
Qk 44 33 43,
Qa 10 44])
 (.seq (.reg [Qb 45 0 9,
Qd 46 45])
 (.block 4 (.seq (.sem (.seq (.reg [Qr 48 46 1,
Qa 47 48])
 (.cond (.t 47)
 .skip
 (.reg [Qr 49 46 2,
Qa 47 49]))))
 (.cond (.t 47)
 (.reg [Qa 50 5,
Qa 51 10,
Qb 52 2 9,
Qc 53 23 52,
⟨none,none,.mset 1 (.t 50) (.t 51) (.t 53),[],(.lone [9,52])⟩])
 (.seq (.reg [Qr 55 46 3,
Qa 54 55])
 (.cond (.t 54)
 (.reg [Qa 56 5,
Qa 57 10,
⟨none,none,.mdel 1 (.t 56) (.t 57),[],(.lone [])⟩])
 .skip))))))))))))
 (.reg [Qm 58 29 1,
Qa 29 58]))))))))
 (.seq (.reg [Qb 59 0 2,
Qc 60 3 59,
Qk 61 34 60,
Qb 62 0 2,
su (.store 3 (.t 62) (.t 61)),
Qb 63 5 2,
su (.store 1 (.t 63) kN)])
 (.seq (.seq (.reg [Qa 64 5,
Qk 65 36 64,
Qk 66 35 65,
Qh 67 66,
Qe 68 0])
 (.sem (.block 5 (.loop (.seq (.reg [Qn 69 68 67])
 (.seq (.cond (.t 69)
 .skip
 (.exit 5))
 (.seq (.block 6 (.seq (.reg [Qp 70 1 66 68,
Qd 71 70,
Qa 12 71])
 (.regd [Qb 72 5 2,
sd 73 (.load none (.t 72)) [0],
Qa 74 5,
Qa 75 12,
zl 76 (.mget 1 false (.agg [dS ⟨#[]⟩,dS ⟨#[]⟩,dS ⟨#[]⟩,dI 0,dI 0,dI 0,dI 0,dB false,dI 0,dN,dN,dN,dN,dI 0,dI 0,dS ⟨#[]⟩,dN,dN,dI 0,dI 0,dS ⟨#[]⟩,dN,dN]) (.t 74) (.t 75)) [2,3] [2,72],
zl 77 (.call 37 [(.t 76)]) [2,3,4] [2,72],
zl 78 (.bslice 23 [(.t 77)]) [2,3,4,5] [2,72],
zl 79 (.app 23 352 (.t 73) (.t 78)) [0,1,2,3,4,5,6] [],
sd 80 (.fieldA 5 (.t 2)) [0,1,2,3,4,5,6,7],
⟨none,none,.store 1 (.t 80) (.t 79),[0,1,2,3,4,5,6,7,8],(.lone [])⟩])))
 (.reg [Qm 81 68 1,
Qa 68 81]))))))))
 (.seq (.reg [Qc 82 6 2,
⟨none,none,.store 6 (.t 4) (.t 82),[],(.lone [2])⟩])
 .ret)))))))⟩
theorem F11_ok{x0 x1 r}(h:F11 x0 x1=some r):An Tryz.prog 11 [.agg (Ch x0),.c (dM (x1.map Bp))] [] (AL [.agg [dS x0.Filter.Kind,dS x0.Filter.Namespace,.own 0 0 0 (r.1.length) none,dI r.2.1,dB x0.Bq,.own 1 0 0 (r.2.2.length) none]]) [some (.arr 0 3 (r.1.map Al)),some (.arr 0 23 (r.2.2.map Ad))]:=by
 rw[F11]at h
 refine zc a11 (by kernel_rfl) rfl (ww ?_)
 refine TO (κ:=ByteArray) (α:=Object) (enc:=Ad) Value.string (ww ?_)
 obtain⟨o1,ho,h⟩:=bi h
 refine AB (fun s=>s=⟨[(1,oc (dM (x1.map Bp))),(2,Pz 0),(4,Pz 1),(5,oc (.mref 2))],[xb (Ch x0),xb [dS ((⟨#[]⟩:ByteArray)),dS ((⟨#[]⟩:ByteArray)),dN,dI 0,dB false,dN],some (.map (eMs Value.string Ad o1))]⟩) ?_ ?_
 ·have h:=ho
  clear ho
  obtain⟨_,hk,h⟩:=bi h
  have hk:=AS hk
  refine ww ?_
  refine bL (fun j s=>∃(o1_1:Nat) (o1_0:List (ByteArray×Object)),(o1_1≤x0.Aa.length∧j=x0.Aa.length-o1_1)∧s=⟨[(1,oc (dM (x1.map Bp))),(2,Pz 0),(4,Pz 1),(5,oc (.mref 2)),(15,oc (dM (x0.Aa.map Ad))),(16,oc (dI ((x0.Aa.length:Int)))),(17,oc (dI ((o1_1:Int))))],[xb (Ch x0),xb [dS ((⟨#[]⟩:ByteArray)),dS ((⟨#[]⟩:ByteArray)),dN,dI 0,dB false,dN],some (.map (eMs Value.string Ad o1_0))]⟩∧F11_l1 (x0.Aa.drop o1_1) o1_1 o1_0=some o1) (x0.Aa.length-0) [some 0,some 1,some 2] ⟨0,[],⟨hk.1,rfl⟩,rfl,h⟩ ?_
  rintro _ _ ⟨o1_1,o1_0,⟨hi,rfl⟩,rfl,h⟩
  refine ww ?_
  refine Bg (fun c2=>?_) (fun c2=>?_)
  ·obtain⟨xo1,hxo1,hd⟩:=A5 (show(o1_1:Int)<(x0.Aa.length:Int)from c2)
   rw[hd,F11_l1]at h
   refine ww ?_
   refine Az (enc:=Ad) (xs:=x0.Aa) rfl rfl hxo1 rfl (ww ?_)
   obtain⟨t3,ht3,h⟩:=bi h
   refine cN [] (F33_ok ht3) trivial (ww ?_)
   refine RO (enc:=Ad) (l:=o1_0) (x:=xo1) kkS rfl rfl rfl rfl (ww ?_)
   rw[AW (by omega)]
   exact eL' (x0.Aa.length-(o1_1+1)) [some 0,some 1,some 2] ⟨o1_1+1,(B2 t3 xo1 o1_0),⟨by omega,rfl⟩,rfl,h⟩ (by omega)
  rw[A6 (show¬((o1_1:Int)<(x0.Aa.length:Int))from c2),F11_l1]at h
  refine ww ?_
  cases h
  exact eM [some 0,some 1,some 2] rfl
 rintro _ rfl
 clear ho
 refine ww ?_
 obtain⟨o5,ho,h⟩:=bi h
 refine AB (fun s=>s=⟨[(2,Pz 0),(4,Pz 1),(5,oc (.mref 2))],[xb [dS x0.Filter.Kind,dS x0.Filter.Namespace,dM (x0.Filter.Selector.map Al),dI o5.1,dB x0.Bq,dM (x0.Aa.map Ad)],xb [dS ((⟨#[]⟩:ByteArray)),dS ((⟨#[]⟩:ByteArray)),dN,dI 0,dB false,dN],some (.map (eMs Value.string Ad o5.2))]⟩) ?_ ?_
 ·have h:=ho
  clear ho
  obtain⟨_,hk,h⟩:=bi h
  have hk:=AS hk
  refine ww ?_
  refine bL (fun j s=>∃(o5_2:Nat) (o5_0:Int) (o5_1:List (ByteArray×Object)),(o5_2≤x1.length∧j=x1.length-o5_2)∧s=⟨[(2,Pz 0),(4,Pz 1),(5,oc (.mref 2)),(27,oc (dM (x1.map Bp))),(28,oc (dI ((x1.length:Int)))),(29,oc (dI ((o5_2:Int))))],[xb [dS x0.Filter.Kind,dS x0.Filter.Namespace,dM (x0.Filter.Selector.map Al),dI o5_0,dB x0.Bq,dM (x0.Aa.map Ad)],xb [dS ((⟨#[]⟩:ByteArray)),dS ((⟨#[]⟩:ByteArray)),dN,dI 0,dB false,dN],some (.map (eMs Value.string Ad o5_1))]⟩∧F11_l5 (x1.drop o5_2) o5_2 o5_0 o5_1=some o5) (x1.length-0) [some 0,some 1,some 2] ⟨0,x0.Rev,o1,⟨hk.1,rfl⟩,rfl,h⟩ ?_
  rintro _ _ ⟨o5_2,o5_0,o5_1,⟨hi,rfl⟩,rfl,h⟩
  refine ww ?_
  refine Bg (fun c6=>?_) (fun c6=>?_)
  ·obtain⟨xo5,hxo5,hd⟩:=A5 (show(o5_2:Int)<(x1.length:Int)from c6)
   rw[hd,F11_l5]at h
   refine ww ?_
   obtain⟨o7,ho,h⟩:=bi h
   refine AB (fun s=>s=⟨[(2,Pz 0),(4,Pz 1),(5,oc (.mref 2)),(27,oc (dM (x1.map Bp))),(28,oc (dI ((x1.length:Int)))),(29,oc (dI ((o5_2:Int))))],[xb [dS x0.Filter.Kind,dS x0.Filter.Namespace,dM (x0.Filter.Selector.map Al),dI o7.1,dB x0.Bq,dM (x0.Aa.map Ad)],xb [dS ((⟨#[]⟩:ByteArray)),dS ((⟨#[]⟩:ByteArray)),dN,dI 0,dB false,dN],some (.map (eMs Value.string Ad o7.2))]⟩) ?_ ?_
   ·have h:=ho
    clear ho
    refine ww ?_
    refine Az (enc:=Bp) (xs:=x1) rfl rfl hxo5 rfl (ww ?_)
    refine AH h (fun c8 h=>ww ?_) (fun c8 h=>ww ?_)
    ·cases h
     exact eM [some 0,some 1,some 2] rfl
    obtain⟨t9,ht9,h⟩:=bi h
    refine cN [] (F33_ok ht9) trivial (ww ?_)
    obtain⟨o10,ho,h⟩:=bi h
    refine AB (fun s=>s=⟨[(2,Pz 0),(4,Pz 1),(5,oc (.mref 2)),(9,Pz 3),(10,oc (dS t9)),(27,oc (dM (x1.map Bp))),(28,oc (dI ((x1.length:Int)))),(29,oc (dI ((o5_2:Int)))),(46,oc (dI xo5.Bl)),(47,oc (dB o10))],[xb [dS x0.Filter.Kind,dS x0.Filter.Namespace,dM (x0.Filter.Selector.map Al),dI xo5.Rev,dB x0.Bq,dM (x0.Aa.map Ad)],xb [dS ((⟨#[]⟩:ByteArray)),dS ((⟨#[]⟩:ByteArray)),dN,dI 0,dB false,dN],some (.map (eMs Value.string Ad o5_1)),xb (Ry xo5)]⟩) ?_ ?_
    ·have h:=ho
     clear ho
     refine ww ?_
     refine AH h (fun c11 h=>ww ?_) (fun c11 h=>ww ?_)
     ·cases h
      exact eM [some 0,some 1,some 2,some 3] rfl
     cases h
     exact eM [some 0,some 1,some 2,some 3] rfl
    rintro _ rfl
    clear ho
    refine ww ?_
    refine AE h (fun c12 h=>ww ?_) (fun c12 h=>ww ?_)
    ·refine RO (enc:=Ad) (l:=o5_1) (x:=xo5.Object) kkS rfl rfl rfl rfl (ww ?_)
     cases h
     exact eM [some 0,some 1,some 2] rfl
    refine AH h (fun c13 h=>ww ?_) (fun c13 h=>ww ?_)
    ·refine VY (enc:=Ad) (l:=o5_1) kkS rfl rfl rfl (ww ?_)
     cases h
     exact eM [some 0,some 1,some 2] rfl
    cases h
    exact eM [some 0,some 1,some 2] rfl
   rintro _ rfl
   clear ho
   refine ww ?_
   rw[AW (by omega)]
   exact eL' (x1.length-(o5_2+1)) [some 0,some 1,some 2] ⟨o5_2+1,o7.1,o7.2,⟨by omega,rfl⟩,rfl,h⟩ (by omega)
  rw[A6 (show¬((o5_2:Int)<(x1.length:Int))from c6),F11_l5]at h
  refine ww ?_
  cases h
  exact eM [some 0,some 1,some 2] rfl
 rintro _ rfl
 clear ho
 refine ww ?_
 obtain⟨t15,ht15,h⟩:=bi h
 refine cN [] (F34_ok ht15) trivial (ww ?_)
 obtain⟨t16,ht16,h⟩:=bi h
 refine cN [2] (F36_ok ht16) ⟨⟨congrArg some (by first|exact QY.symm|exact QX.symm),(by first|exact Fi La _|exact Fi K9 _)⟩,trivial⟩ ?_
 refine ww ?_
 obtain⟨t17,ht17,h⟩:=bi h
 refine cN [4,2] (F35_64_ok ht17) ⟨⟨rfl,by simp[Blk.live,C.live,hp]⟩,⟨⟨congrArg some (by first|exact QY.symm|exact QX.symm),(by first|exact Fi La _|exact Fi K9 _)⟩,trivial⟩⟩ ?_
 refine ww ?_
 obtain⟨o18,ho,h⟩:=bi h
 refine AB (fun s=>s=⟨[(2,Pz 0),(4,Pz 3)],[xb [dS x0.Filter.Kind,dS x0.Filter.Namespace,.own 1 0 0 (t15.length) none,dI o5.1,dB x0.Bq,.own 2 0 0 (o18.length) none],some (.arr 0 3 (t15.map Al)),some (.arr 0 23 (o18.map Ad)),xb [dS ((⟨#[]⟩:ByteArray)),dS ((⟨#[]⟩:ByteArray)),dN,dI 0,dB false,dN]]⟩) ?_ ?_
 ·have h:=ho
  clear ho
  obtain⟨_,hk,h⟩:=bi h
  have hk:=AS hk
  refine ww ?_
  refine bL (fun j s=>∃(o18_1:Nat) (o18_0:List Object),(o18_1≤t17.length∧j=t17.length-o18_1)∧s=⟨[(2,Pz 0),(4,Pz 3),(5,oc (.mref 4)),(66,oc (.own 5 0 0 (t17.length) none)),(67,oc (dI ((t17.length:Int)))),(68,oc (dI ((o18_1:Int))))],[xb [dS x0.Filter.Kind,dS x0.Filter.Namespace,.own 1 0 0 (t15.length) none,dI o5.1,dB x0.Bq,.own 2 0 0 (o18_0.length) none],some (.arr 0 3 (t15.map Al)),some (.arr 0 23 (o18_0.map Ad)),xb [dS ((⟨#[]⟩:ByteArray)),dS ((⟨#[]⟩:ByteArray)),dN,dI 0,dB false,dN],some (.map (eMs Value.string Ad o5.2)),some (.arr 0 1 (t17.map eS))]⟩∧F11_l18 o5 t17 (t17.drop o18_1) o18_1 o18_0=some o18) (t17.length-0) [some 0,some 3,none,some 1,some 2,some 5] ⟨0,[],⟨hk.1,rfl⟩,rfl,h⟩ ?_
  rintro _ _ ⟨o18_1,o18_0,⟨hi,rfl⟩,rfl,h⟩
  refine ww ?_
  refine Bg (fun c19=>?_) (fun c19=>?_)
  ·obtain⟨xo18,hxo18,hd⟩:=A5 (show(o18_1:Int)<(t17.length:Int)from c19)
   rw[hd,F11_l18]at h
   refine ww ?_
   obtain⟨y20,hy20,h⟩:=bi h
   refine Cx (enc:=eS) (xs:=t17) rfl rfl rfl (by first|rfl|simp only[List.length_set]|exact(AN (AX (by assumption))).symm) hy20 (ww ?_)
   refine Es.rd (Bk hy20).2.1 (ww ?_)
   obtain⟨y21,hy21,h⟩:=bi h
   refine TP (enc:=Ad) (l:=o5.2) kkS rfl rfl rfl hy21 (ww ?_)
   obtain⟨t22,ht22,h⟩:=bi h
   refine cN [] (F37_ok ht22) trivial (ww ?_)
   refine BE (enc:=Ad) (ys:=[(⟨(⟨y21.Meta.Kind,y21.Meta.Namespace,y21.Meta.Name,y21.Meta.Uid,y21.Meta.Version,y21.Meta.Ai,y21.Meta.Created,y21.Meta.Av,y21.Meta.Ar,t22.1,t22.2.1,t22.2.2.1,t22.2.2.2.1⟩:Meta),(⟨y21.Spec.Kind,y21.Spec.N,y21.Spec.S,t22.2.2.2.2.1,t22.2.2.2.2.2.1⟩:Ab),(⟨y21.Status.Kind,y21.Status.N,y21.Status.S,t22.2.2.2.2.2.2.1,t22.2.2.2.2.2.2.2⟩:Ab)⟩:Object)]) rfl rfl (by simp[A1.cells]) (by first|rfl|(simp only[List.drop_zero,Aw];rfl)|(simp only[lit,List.map_cons,List.map_nil,List.drop_zero,Aw,EE.down];done)|(simp only[lit,List.map_cons,List.map_nil,List.drop_zero,Aw,EE.down];rfl)) (ww ?_)
   obtain⟨a23,ha23,h⟩:=bi h
   refine D6 (enc:=Ad) (xs:=o18_0) rfl rfl (by first|rfl|simp only[List.length_set]|exact(AN (AX (by assumption))).symm) rfl (Co (enc:=Ad) (by first|rfl|simp only[List.length_set]|exact(AN (AX (by assumption))).symm) rfl) ha23 (ww ?_)
   rw[AW (by omega)]
   exact eL' (t17.length-(o18_1+1)) [some 0,some 1,some 2,some 3,some 4,some 5] ⟨o18_1+1,a23,⟨by omega,rfl⟩,rfl,h⟩ (by omega)
  rw[A6 (show¬((o18_1:Int)<(t17.length:Int))from c19),F11_l18]at h
  refine ww ?_
  cases h
  exact eM [some 0,some 1,some 2,some 3] rfl
 rintro _ rfl
 clear ho
 refine ww ?_
 cases h
 exact eF [some 1,some 2]
def F117_l1(x1:(List Label)):List Ah→Nat→Option ((Bool) ⊕ (Unit))
 |[],o1_0=>some (Sum.inr (()))
 |xo1::xs,o1_0=>(F157 xo1 x1).bind fun t3=>(if(nb t3)=true then(some false).map Sum.inl else F117_l1 x1 xs (o1_0+1))
def F117(x0:(List Ah))(x1:(List Label)):Option (Bool):=(((ck (0≤x0.length∧x0.length≤4294967290)).bind fun u5=>F117_l1 x1 x0 0:Option ((Bool) ⊕ (Unit))).bind fun o1=>match o1 with|Sum.inl f=>some f|Sum.inr po1=>some true)
def a117:AFn:=⟨18,[(.tmp 4)],
 (.seq (.reg [Qf 4 false])
 (.seq (.seq (.reg [Qa 7 0,
Qh 8 7,
Qe 9 0])
 (.sem (.block 0 (.loop (.seq (.reg [Qn 10 9 8])
 (.seq (.cond (.t 10)
 .skip
 (.exit 0))
 (.seq (.block 1 (.seq (.reg [Qp 11 3 7 9,
Qc 12 3 11,
sq 6 (.zbox [dS ⟨#[]⟩,dI 0,dN]),
su (.store 3 (.t 6) (.t 12))])
 (.seq (.reg [Qc 13 3 6,
Qa 14 1,
Ql 15 157 13 14,
Qq 16 15])
 (.cond (.t 16)
 (.seq (.reg [Qf 4 false])
 .ret)
 .skip))))
 (.reg [Qm 17 9 1,
Qa 9 17]))))))))
 (.seq (.reg [Qf 4 true])
 .ret)))⟩
theorem F117_ok{x0 x1 r}(h:F117 x0 x1=some r):An Tryz.prog 117 [.c (dM (x0.map Al)),.c (dM (x1.map AY))] [] (AL [.c (dB r)]) []:=by
 rw[F117]at h
 refine zc a117 (by kernel_rfl) rfl (ww ?_)
 obtain⟨o1,ho,h⟩:=bi h
 refine AB (fun s=>∃po1,o1=Sum.inr po1∧s=⟨[],[]⟩) ?_ ?_
 ·have h0o1:=h
  have h:=ho
  clear ho
  obtain⟨_,hk,h⟩:=bi h
  have hk:=AS hk
  refine ww ?_
  refine bL (fun j s=>∃(o1_0:Nat),(o1_0≤x0.length∧j=x0.length-o1_0)∧s=⟨[(1,oc (dM (x1.map AY))),(7,oc (dM (x0.map Al))),(8,oc (dI ((x0.length:Int)))),(9,oc (dI ((o1_0:Int))))],[]⟩∧F117_l1 x1 (x0.drop o1_0) o1_0=some o1) (x0.length-0) [] ⟨0,⟨hk.1,rfl⟩,rfl,h⟩ ?_
  rintro _ _ ⟨o1_0,⟨hi,rfl⟩,rfl,h⟩
  refine ww ?_
  refine Bg (fun c2=>?_) (fun c2=>?_)
  ·obtain⟨xo1,hxo1,hd⟩:=A5 (show(o1_0:Int)<(x0.length:Int)from c2)
   rw[hd,F117_l1]at h
   refine ww ?_
   refine Az (enc:=Al) (xs:=x0) rfl rfl hxo1 rfl (ww ?_)
   obtain⟨t3,ht3,h⟩:=bi h
   refine cN [] (F157_ok ht3) trivial (ww ?_)
   refine AE h (fun c4 h=>ww ?_) (fun c4 h=>ww ?_)
   ·obtain⟨fh0o1,hfh0o1,rfl⟩:=Option.map_eq_some_iff.1 h
    have h:=hfh0o1.trans h0o1
    cases h
    exact eF []
   rw[AW (by omega)]
   exact eL' (x0.length-(o1_0+1)) [] ⟨o1_0+1,⟨by omega,rfl⟩,rfl,h⟩ (by omega)
  rw[A6 (show¬((o1_0:Int)<(x0.length:Int))from c2),F117_l1]at h
  refine ww ?_
  cases h
  exact eM [] ⟨_,rfl,rfl⟩
 rintro _ ⟨po1,rfl,rfl⟩
 clear ho
 dsimp only at h
 refine ww ?_
 cases h
 exact eF []
def F84(x0:Filter)(x1:Object):Option (Bool):=(((if x0.Kind=(⟨#[]⟩:ByteArray)then(if x0.Namespace=(⟨#[]⟩:ByteArray)then(F117 x0.Selector x1.Meta.Ax).bind fun t4=>some t4 else(if x0.Namespace=x1.Meta.Namespace then(F117 x0.Selector x1.Meta.Ax).bind fun t6=>some t6 else some false))else(if x0.Kind=x1.Meta.Kind then(if x0.Namespace=(⟨#[]⟩:ByteArray)then(F117 x0.Selector x1.Meta.Ax).bind fun t9=>some t9 else(if x0.Namespace=x1.Meta.Namespace then(F117 x0.Selector x1.Meta.Ax).bind fun t11=>some t11 else some false))else some false))).bind fun o1=>some o1)
def a84:AFn:=⟨37,[(.tmp 4)],
 (.seq (.reg [Qg 2 0,
Qg 3 1,
Qf 4 false])
 (.seq (.sem (.reg [Qb 5 0 2,
Qd 6 5,
sq 7 (.bin .eql (.t 6) (kS ⟨#[]⟩)),
Qa 8 7,
Qs 9 8 false 0 2,
Qt 10 8 false 9,
Qs 11 8 false 0 3,
Qs 12 8 false 0 11,
Qt 13 8 false 12,
zg 14 8 false (.bin .eql (.t 10) (.t 13)),
Qj 15 8 14,
Qa 16 15,
Qs 17 16 true 1 2,
Qt 18 16 true 17,
zg 19 16 true (.bin .eql (.t 18) (kS ⟨#[]⟩)),
Qv 20 16 true 19,
Qs 21 20 false 1 2,
Qt 22 20 false 21,
Qs 23 20 false 0 3,
Qs 24 20 false 1 23,
Qt 25 20 false 24,
zg 26 20 false (.bin .eql (.t 22) (.t 25)),
zg 27 16 true (.pick (.t 20) (kB true) (.t 26)),
Qi 28 16 27,
Qa 29 28,
Qs 30 29 true 2 2,
Qt 31 29 true 30,
Qs 32 29 true 0 3,
Qs 33 29 true 9 32,
Qt 34 29 true 33,
zg 35 29 true (.call 117 [(.t 31),(.t 34)]),
Qi 36 29 35,
Qa 4 36]))
 .ret))⟩
theorem F84_ok{x0 x1 r}(h:F84 x0 x1=some r):An Tryz.prog 84 [.agg (Bj x0),.agg (Bc x1)] [] (AL [.c (dB r)]) []:=by
 rw[F84]at h
 refine zc a84 (by kernel_rfl) rfl (ww ?_)
 obtain⟨o1,ho,h⟩:=bi h
 refine AB (fun s=>s=⟨[(4,oc (dB o1))],[]⟩) ?_ ?_
 ·have h:=ho
  clear ho
  refine ww ?_
  refine Af h (fun g2 h=>ww ?_) (fun g2 h=>ww ?_)
  ·refine Af h (fun g3 h=>ww ?_) (fun g3 h=>ww ?_)
   ·obtain⟨t4,ht4,h⟩:=bi h
    refine cN [] (F117_ok ht4) trivial (ww ?_)
    cases h
    exact eM [] rfl
   refine Af h (fun g5 h=>ww ?_) (fun g5 h=>ww ?_)
   ·obtain⟨t6,ht6,h⟩:=bi h
    refine cN [] (F117_ok ht6) trivial (ww ?_)
    cases h
    exact eM [] rfl
   cases h
   exact eM [] rfl
  refine Af h (fun g7 h=>ww ?_) (fun g7 h=>ww ?_)
  ·refine Af h (fun g8 h=>ww ?_) (fun g8 h=>ww ?_)
   ·obtain⟨t9,ht9,h⟩:=bi h
    refine cN [] (F117_ok ht9) trivial (ww ?_)
    cases h
    exact eM [] rfl
   refine Af h (fun g10 h=>ww ?_) (fun g10 h=>ww ?_)
   ·obtain⟨t11,ht11,h⟩:=bi h
    refine cN [] (F117_ok ht11) trivial (ww ?_)
    cases h
    exact eM [] rfl
   cases h
   exact eM [] rfl
  cases h
  exact eM [] rfl
 rintro _ rfl
 clear ho
 refine ww ?_
 cases h
 exact eF []
def F86_l5:List AI→Nat→(List AI)→Option ((List AI))
 |[],o5_1,o5_0=>some o5_0
 |xo5::xs,o5_1,o5_0=>(rdI o5_0 ((o5_1:Int))).bind fun y7=>(BI y7.Ae).bind fun t8=>(rdI o5_0 ((o5_1:Int))).bind fun y9=>F86_l5 xs (o5_1+1) ((o5_0.set ((o5_1:Int)).toNat ((⟨y9.Name,t8⟩:AI))))
def F86(x0:Object):Option ((List Label)×(List BO)×(List ByteArray)×(List AI)×Int×Int×ByteArray×((List Ab))×((List Ay))×Int×Int×ByteArray×((List Ab))×((List Ay))):=(BI x0.Meta.Ax).bind fun t1=>(BI x0.Meta.AF).bind fun t2=>(BI x0.Meta.Au).bind fun t3=>(BI x0.Meta.Aj).bind fun t4=>(((ck (0≤t4.length∧t4.length≤4294967290)).bind fun u10=>F86_l5 t4 0 t4).bind fun o5=>(F118 ([x0.Spec,x0.Status])).bind fun t11=>(rdI t11.1 0).bind fun y12=>(rdI t11.1 1).bind fun y13=>some ((t1,t2,t3,o5,y12.Kind,y12.N,y12.S,y12.At,y12.Ae,y13.Kind,y13.N,y13.S,y13.At,y13.Ae)))
def a86:AFn:=⟨65,[(.cell 2 (some 23))],
 (.seq (.reg [Qg 1 0,
sq 2 (.zbox [dS ⟨#[]⟩,dS ⟨#[]⟩,dS ⟨#[]⟩,dI 0,dI 0,dI 0,dI 0,dB false,dI 0,dN,dN,dN,dN,dI 0,dI 0,dS ⟨#[]⟩,dN,dN,dI 0,dI 0,dS ⟨#[]⟩,dN,dN])])
 (.seq (.reg [Qb 6 0 1,
Qb 7 9 6,
Qd 8 7,
Qk 9 65 8,
Qb 10 0 1,
Qb 11 9 10,
su (.store 1 (.t 11) (.t 9))])
 (.seq (.reg [Qb 12 0 1,
Qb 13 10 12,
Qd 14 13,
Qk 15 66 14,
Qb 16 0 1,
Qb 17 10 16,
su (.store 1 (.t 17) (.t 15))])
 (.seq (.reg [Qb 18 0 1,
Qb 19 11 18,
Qd 20 19,
Qk 21 61 20,
Qb 22 0 1,
Qb 23 11 22,
su (.store 1 (.t 23) (.t 21))])
 (.seq (.reg [Qb 24 0 1,
Qb 25 12 24,
Qd 26 25,
Qk 27 67 26,
Qb 28 0 1,
Qb 29 12 28,
su (.store 1 (.t 29) (.t 27))])
 (.seq (.seq (.reg [Qb 30 0 1,
Qb 31 12 30,
Qd 32 31,
Qh 33 32,
Qe 34 0])
 (.sem (.block 0 (.loop (.seq (.reg [Qn 35 34 33])
 (.seq (.cond (.t 35)
 .skip
 (.exit 0))
 (.seq (.block 1 (.seq (.reg [Qa 36 34,
Qp 37 2 32 34,
Qc 38 2 37,
sq 4 (.zbox [dS ⟨#[]⟩,dN]),
Qa 3 36,
su (.store 2 (.t 4) (.t 38))])
 (.regd [Qb 39 0 1,
sd 40 (.fieldA 12 (.t 39)) [0],
sd 41 (.load none (.t 40)) [0,1],
Qa 42 3,
Qb 43 1 4,
sd 44 (.load none (.t 43)) [4],
zl 45 (.call 61 [(.t 44)]) [4,5] [1,39,40],
sd 46 (.indexA 2 (.t 41) (.t 42)) [0,1,2,3,4,5,6],
sd 47 (.fieldA 1 (.t 46)) [0,1,2,3,4,5,6,7],
⟨none,none,.store 1 (.t 47) (.t 45),[0,1,2,3,4,5,6,7,8],(.lone [])⟩])))
 (.reg [Qm 48 34 1,
Qa 34 48]))))))))
 (.seq (.reg [Qb 49 13 1,
Qc 50 5 49,
Qb 51 18 1,
Qc 52 5 51,
sq 53 (.bslice 5 [(.t 50),(.t 52)]),
Qk 54 118 53,
sq 55 (.field 3 none (.t 54)),
Qa 5 55])
 (.seq (.regd [Qa 56 5,
sd 57 (.indexA 5 (.t 56) (kI 0)) [0],
sd 58 (.load (some 5) (.t 57)) [0,1],
Qa 59 5,
sd 60 (.indexA 5 (.t 59) (kI 1)) [3],
sd 61 (.load (some 5) (.t 60)) [3,4],
sd 62 (.fieldA 13 (.t 1)) [0,1,2],
⟨none,none,.store 5 (.t 62) (.t 58),[0,1,2,6],(.lone [59,60])⟩,
sd 63 (.fieldA 18 (.t 1)) [0,1,2,3,4,5,6,7],
⟨none,none,.store 5 (.t 63) (.t 61),[0,1,2,3,4,5,6,7,8],(.lone [])⟩])
 (.seq (.reg [Qc 64 23 1,
⟨none,none,.store 23 (.t 2) (.t 64),[],(.lone [1])⟩])
 .ret)))))))))⟩
theorem F86_ok{x0 r}(h:F86 x0=some r):An Tryz.prog 86 [.agg (Bc x0)] [] (AL [.agg [dS x0.Meta.Kind,dS x0.Meta.Namespace,dS x0.Meta.Name,dI x0.Meta.Uid,dI x0.Meta.Version,dI x0.Meta.Ai,dI x0.Meta.Created,dB x0.Meta.Av,dI x0.Meta.Ar,.own 0 0 0 (r.1.length) none,.own 1 0 0 (r.2.1.length) none,.own 2 0 0 (r.2.2.1.length) none,.own 3 0 0 (r.2.2.2.1.length) none,dI r.2.2.2.2.1,dI r.2.2.2.2.2.1,dS r.2.2.2.2.2.2.1,dM (r.2.2.2.2.2.2.2.1.map Ap),dM (r.2.2.2.2.2.2.2.2.1.map Ao),dI r.2.2.2.2.2.2.2.2.2.1,dI r.2.2.2.2.2.2.2.2.2.2.1,dS r.2.2.2.2.2.2.2.2.2.2.2.1,dM (r.2.2.2.2.2.2.2.2.2.2.2.2.1.map Ap),dM (r.2.2.2.2.2.2.2.2.2.2.2.2.2.map Ao)]]) [some (.arr 0 2 (r.1.map AY)),some (.arr 0 5 (r.2.1.map A3)),some (.arr 0 1 (r.2.2.1.map eS)),some (.arr 0 2 (r.2.2.2.1.map AG))]:=by
 rw[F86]at h
 refine zc a86 (by kernel_rfl) rfl (ww ?_)
 obtain⟨t1,ht1,h⟩:=bi h
 refine cN [] (F65_ok ht1) trivial (ww ?_)
 obtain⟨t2,ht2,h⟩:=bi h
 refine cN [] (F66_ok ht2) trivial (ww ?_)
 obtain⟨t3,ht3,h⟩:=bi h
 refine cN [] (F61_ok ht3) trivial (ww ?_)
 obtain⟨t4,ht4,h⟩:=bi h
 refine cN [] (F67_ok ht4) trivial (ww ?_)
 obtain⟨o5,ho,h⟩:=bi h
 refine AB (fun s=>s=⟨[(1,Pz 0),(2,Pz 5)],[xb [dS x0.Meta.Kind,dS x0.Meta.Namespace,dS x0.Meta.Name,dI x0.Meta.Uid,dI x0.Meta.Version,dI x0.Meta.Ai,dI x0.Meta.Created,dB x0.Meta.Av,dI x0.Meta.Ar,.own 1 0 0 (t1.length) none,.own 2 0 0 (t2.length) none,.own 3 0 0 (t3.length) none,.own 4 0 0 (o5.length) none,dI x0.Spec.Kind,dI x0.Spec.N,dS x0.Spec.S,dM (x0.Spec.At.map Ap),dM (x0.Spec.Ae.map Ao),dI x0.Status.Kind,dI x0.Status.N,dS x0.Status.S,dM (x0.Status.At.map Ap),dM (x0.Status.Ae.map Ao)],some (.arr 0 2 (t1.map AY)),some (.arr 0 5 (t2.map A3)),some (.arr 0 1 (t3.map eS)),some (.arr 0 2 (o5.map AG)),xb [dS ((⟨#[]⟩:ByteArray)),dS ((⟨#[]⟩:ByteArray)),dS ((⟨#[]⟩:ByteArray)),dI 0,dI 0,dI 0,dI 0,dB false,dI 0,dN,dN,dN,dN,dI 0,dI 0,dS ((⟨#[]⟩:ByteArray)),dN,dN,dI 0,dI 0,dS ((⟨#[]⟩:ByteArray)),dN,dN]]⟩) ?_ ?_
 ·have h:=ho
  clear ho
  obtain⟨_,hk,h⟩:=bi h
  have hk:=AS hk
  refine ww ?_
  refine bL (fun j s=>∃(o5_1:Nat) (o5_0:List AI),(o5_1≤t4.length∧j=t4.length-o5_1)∧s=⟨[(1,Pz 0),(2,Pz 5),(32,oc (.own 4 0 0 (o5_0.length) none)),(33,oc (dI ((t4.length:Int)))),(34,oc (dI ((o5_1:Int))))],[xb [dS x0.Meta.Kind,dS x0.Meta.Namespace,dS x0.Meta.Name,dI x0.Meta.Uid,dI x0.Meta.Version,dI x0.Meta.Ai,dI x0.Meta.Created,dB x0.Meta.Av,dI x0.Meta.Ar,.own 1 0 0 (t1.length) none,.own 2 0 0 (t2.length) none,.own 3 0 0 (t3.length) none,.own 4 0 0 (o5_0.length) none,dI x0.Spec.Kind,dI x0.Spec.N,dS x0.Spec.S,dM (x0.Spec.At.map Ap),dM (x0.Spec.Ae.map Ao),dI x0.Status.Kind,dI x0.Status.N,dS x0.Status.S,dM (x0.Status.At.map Ap),dM (x0.Status.Ae.map Ao)],some (.arr 0 2 (t1.map AY)),some (.arr 0 5 (t2.map A3)),some (.arr 0 1 (t3.map eS)),some (.arr 0 2 (o5_0.map AG)),xb [dS ((⟨#[]⟩:ByteArray)),dS ((⟨#[]⟩:ByteArray)),dS ((⟨#[]⟩:ByteArray)),dI 0,dI 0,dI 0,dI 0,dB false,dI 0,dN,dN,dN,dN,dI 0,dI 0,dS ((⟨#[]⟩:ByteArray)),dN,dN,dI 0,dI 0,dS ((⟨#[]⟩:ByteArray)),dN,dN]]⟩∧F86_l5 (t4.drop o5_1) o5_1 o5_0=some o5) (t4.length-0) [some 0,some 2,some 3,some 4,some 5,some 1] ⟨0,t4,⟨hk.1,rfl⟩,rfl,h⟩ ?_
  rintro _ _ ⟨o5_1,o5_0,⟨hi,rfl⟩,rfl,h⟩
  refine ww ?_
  refine Bg (fun c6=>?_) (fun c6=>?_)
  ·obtain⟨xo5,hxo5,hd⟩:=A5 (show(o5_1:Int)<(t4.length:Int)from c6)
   rw[hd,F86_l5]at h
   refine ww ?_
   obtain⟨y7,hy7,h⟩:=bi h
   refine Cx (enc:=AG) (xs:=o5_0) rfl rfl rfl (by first|rfl|simp only[List.length_set]|exact(AN (AX (by assumption))).symm) hy7 (ww ?_)
   refine Es.rd (Bk hy7).2.1 (ww ?_)
   obtain⟨t8,ht8,h⟩:=bi h
   refine cN [] (F61_ok ht8) trivial (ww ?_)
   obtain⟨y9,hy9,h⟩:=bi h
   refine Cx (enc:=AG) (xs:=o5_0) rfl rfl rfl (by first|rfl|simp only[List.length_set]|exact(AN (AX (by assumption))).symm) hy9 (ww ?_)
   refine Fp.rd (y':=(⟨y9.Name,t8⟩:AI)) (Bk hy9).2.1 (by simp[EE.down]) (by first|rfl|(simp only[BB];rfl)) (ww ?_)
   rw[AW (by omega)]
   exact eL' (t4.length-(o5_1+1)) [some 0,some 1,some 2,some 3,some 4,some 5] ⟨o5_1+1,(o5_0.set ((o5_1:Int)).toNat ((⟨y9.Name,t8⟩:AI))),⟨by omega,rfl⟩,rfl,h⟩ (by omega)
  rw[A6 (show¬((o5_1:Int)<(t4.length:Int))from c6),F86_l5]at h
  refine ww ?_
  cases h
  exact eM [some 0,some 1,some 2,some 3,some 4,some 5] rfl
 rintro _ rfl
 clear ho
 refine ww ?_
 refine BE (enc:=Ap) (ys:=[x0.Spec,x0.Status]) rfl rfl (by simp[A1.cells]) (by first|rfl|(simp only[List.drop_zero,Aw];rfl)|(simp only[lit,List.map_cons,List.map_nil,List.drop_zero,Aw,EE.down];done)|(simp only[lit,List.map_cons,List.map_nil,List.drop_zero,Aw,EE.down];rfl)) (ww ?_)
 obtain⟨t11,ht11,h⟩:=bi h
 refine Ce (as1:=[.c (dM (([x0.Spec,x0.Status]).map Ap))]) [(6,.arr 1 5 [])] [some 0,some 1,some 2,some 3,some 4,some 5,none] [] (F118_ok ht11) ⟨?_,rfl,?_⟩ ?_ ?_ ?_ ?_ ?_ ?_ ?_ ?_
 ·simp only[ZZ.down,Nat.reduceEqDiff,reduceCtorEq,Nat.reduceAdd,Nat.reduceLeDiff,Nat.reduceLT,Nat.reduceBNe,EE.down]
 ·simp only[ZZ.down,Nat.reduceEqDiff,reduceCtorEq,Nat.reduceAdd,Nat.reduceLeDiff,Nat.reduceLT,Nat.reduceBNe,EE.down]
 ·simp only[ZZ.down,Nat.reduceEqDiff,reduceCtorEq,Nat.reduceAdd,Nat.reduceLeDiff,Nat.reduceLT,Nat.reduceBNe,EE.down]
 ·rfl
 ·rfl
 ·simp[Cj,A1.live,C.live]
 ·rfl
 ·decide
 ·exact trivial
 refine ww ?_
 obtain⟨y12,hy12,h⟩:=bi h
 refine Cx (enc:=Ap) (xs:=t11.1) rfl rfl rfl (by first|rfl|simp only[List.length_set]|exact(AN (AX (by assumption))).symm) hy12 (ww ?_)
 refine Es.rd (Bk hy12).2.1 (ww ?_)
 obtain⟨y13,hy13,h⟩:=bi h
 refine Cx (enc:=Ap) (xs:=t11.1) rfl rfl rfl (by first|rfl|simp only[List.length_set]|exact(AN (AX (by assumption))).symm) hy13 (ww ?_)
 refine Es.rd (Bk hy13).2.1 (ww ?_)
 cases h
 exact eF [some 1,some 2,some 3,some 4]
def F119(x0:Filter)(x1:Object):Option (Bool):=(((if x0.Kind=(⟨#[]⟩:ByteArray)then(if x0.Namespace=(⟨#[]⟩:ByteArray)then(F117 x0.Selector x1.Meta.Ax).bind fun t4=>some t4 else(if x0.Namespace=x1.Meta.Namespace then(F117 x0.Selector x1.Meta.Ax).bind fun t6=>some t6 else some false))else(if x0.Kind=x1.Meta.Kind then(if x0.Namespace=(⟨#[]⟩:ByteArray)then(F117 x0.Selector x1.Meta.Ax).bind fun t9=>some t9 else(if x0.Namespace=x1.Meta.Namespace then(F117 x0.Selector x1.Meta.Ax).bind fun t11=>some t11 else some false))else some false))).bind fun o1=>some o1)
def a119:AFn:=⟨37,[(.tmp 4)],
 (.seq (.reg [Qg 2 0,
Qg 3 1,
Qf 4 false])
 (.seq (.sem (.reg [Qb 5 0 2,
Qd 6 5,
sq 7 (.bin .eql (.t 6) (kS ⟨#[]⟩)),
Qa 8 7,
Qs 9 8 false 0 2,
Qt 10 8 false 9,
Qs 11 8 false 0 3,
Qs 12 8 false 0 11,
Qt 13 8 false 12,
zg 14 8 false (.bin .eql (.t 10) (.t 13)),
Qj 15 8 14,
Qa 16 15,
Qs 17 16 true 1 2,
Qt 18 16 true 17,
zg 19 16 true (.bin .eql (.t 18) (kS ⟨#[]⟩)),
Qv 20 16 true 19,
Qs 21 20 false 1 2,
Qt 22 20 false 21,
Qs 23 20 false 0 3,
Qs 24 20 false 1 23,
Qt 25 20 false 24,
zg 26 20 false (.bin .eql (.t 22) (.t 25)),
zg 27 16 true (.pick (.t 20) (kB true) (.t 26)),
Qi 28 16 27,
Qa 29 28,
Qs 30 29 true 2 2,
Qt 31 29 true 30,
Qs 32 29 true 0 3,
Qs 33 29 true 9 32,
Qt 34 29 true 33,
zg 35 29 true (.call 117 [(.t 31),(.t 34)]),
Qi 36 29 35,
Qa 4 36]))
 .ret))⟩
theorem F119_ok{x0 x1 r}(h:F119 x0 x1=some r):An Tryz.prog 119 [.agg (Bj x0),.agg (Bc x1)] [] (AL [.c (dB r)]) []:=by
 rw[F119]at h
 refine zc a119 (by kernel_rfl) rfl (ww ?_)
 obtain⟨o1,ho,h⟩:=bi h
 refine AB (fun s=>s=⟨[(4,oc (dB o1))],[]⟩) ?_ ?_
 ·have h:=ho
  clear ho
  refine ww ?_
  refine Af h (fun g2 h=>ww ?_) (fun g2 h=>ww ?_)
  ·refine Af h (fun g3 h=>ww ?_) (fun g3 h=>ww ?_)
   ·obtain⟨t4,ht4,h⟩:=bi h
    refine cN [] (F117_ok ht4) trivial (ww ?_)
    cases h
    exact eM [] rfl
   refine Af h (fun g5 h=>ww ?_) (fun g5 h=>ww ?_)
   ·obtain⟨t6,ht6,h⟩:=bi h
    refine cN [] (F117_ok ht6) trivial (ww ?_)
    cases h
    exact eM [] rfl
   cases h
   exact eM [] rfl
  refine Af h (fun g7 h=>ww ?_) (fun g7 h=>ww ?_)
  ·refine Af h (fun g8 h=>ww ?_) (fun g8 h=>ww ?_)
   ·obtain⟨t9,ht9,h⟩:=bi h
    refine cN [] (F117_ok ht9) trivial (ww ?_)
    cases h
    exact eM [] rfl
   refine Af h (fun g10 h=>ww ?_) (fun g10 h=>ww ?_)
   ·obtain⟨t11,ht11,h⟩:=bi h
    refine cN [] (F117_ok ht11) trivial (ww ?_)
    cases h
    exact eM [] rfl
   cases h
   exact eM [] rfl
  cases h
  exact eM [] rfl
 rintro _ rfl
 clear ho
 refine ww ?_
 cases h
 exact eF []
def F27(x0:Ag)(x1:ByteArray):Option (Object×Bool):=(F52 x0.Aa x1).bind fun t1=>(if t1<0 then some (((⟨(⟨(⟨#[]⟩:ByteArray),(⟨#[]⟩:ByteArray),(⟨#[]⟩:ByteArray),0,0,0,0,false,0,[],[],[],[]⟩:Meta),(⟨0,0,(⟨#[]⟩:ByteArray),[],[]⟩:Ab),(⟨0,0,(⟨#[]⟩:ByteArray),[],[]⟩:Ab)⟩:Object),false))else(rdI x0.Aa t1).bind fun y3=>some ((y3,true)))
def a27:AFn:=⟨19,[(.cell 4 (some 23)),(.tmp 5)],
 (.seq (.reg [Qg 2 0,
sq 4 (.zbox [dS ⟨#[]⟩,dS ⟨#[]⟩,dS ⟨#[]⟩,dI 0,dI 0,dI 0,dI 0,dB false,dI 0,dN,dN,dN,dN,dI 0,dI 0,dS ⟨#[]⟩,dN,dN,dI 0,dI 0,dS ⟨#[]⟩,dN,dN]),
Qf 5 false])
 (.seq (.reg [Qb 7 4 2,
Qd 8 7,
Qa 9 1,
Ql 10 52 8 9,
Qa 6 10])
 (.seq (.seq (.reg [Qa 11 6,
sq 12 (.bin .lss (.t 11) (kI 0))])
 (.cond (.t 12)
 (.seq (.reg [sq 13 (.build [dS ⟨#[]⟩,dS ⟨#[]⟩,dS ⟨#[]⟩,dI 0,dI 0,dI 0,dI 0,dB false,dI 0,dN,dN,dN,dN,dI 0,dI 0,dS ⟨#[]⟩,dN,dN,dI 0,dI 0,dS ⟨#[]⟩,dN,dN] []),
su (.store 23 (.t 4) (.t 13)),
Qf 5 false])
 .ret)
 .skip))
 (.seq (.reg [Qb 14 4 2,
Qd 15 14,
Qa 16 6,
Qp 17 23 15 16,
Qc 18 23 17,
su (.store 23 (.t 4) (.t 18)),
Qf 5 true])
 .ret))))⟩
theorem F27_ok{x0 x1 r}(h:F27 x0 x1=some r):An Tryz.prog 27 [.agg (AO x0),.c (dS x1)] [] (AL [.agg (Bc (r.1)),.c (dB r.2)]) []:=by
 rw[F27]at h
 refine zc a27 (by kernel_rfl) rfl (ww ?_)
 obtain⟨t1,ht1,h⟩:=bi h
 refine cN [] (F52_ok ht1) trivial (ww ?_)
 refine AH h (fun c2 h=>ww ?_) (fun c2 h=>ww ?_)
 ·cases h
  exact eF []
 obtain⟨y3,hy3,h⟩:=bi h
 refine Az (enc:=Ad) (xs:=x0.Aa) rfl rfl hy3 rfl (ww ?_)
 cases h
 exact eF []
def F143(x0:Meta):Option (Bool):=(((if(if x0.Ar<(if x0.Created<(if x0.Ai<(if x0.Version<x0.Uid then x0.Version else x0.Uid)then x0.Ai else(if x0.Version<x0.Uid then x0.Version else x0.Uid))then x0.Created else(if x0.Ai<(if x0.Version<x0.Uid then x0.Version else x0.Uid)then x0.Ai else(if x0.Version<x0.Uid then x0.Version else x0.Uid)))then x0.Ar else(if x0.Created<(if x0.Ai<(if x0.Version<x0.Uid then x0.Version else x0.Uid)then x0.Ai else(if x0.Version<x0.Uid then x0.Version else x0.Uid))then x0.Created else(if x0.Ai<(if x0.Version<x0.Uid then x0.Version else x0.Uid)then x0.Ai else(if x0.Version<x0.Uid then x0.Version else x0.Uid))))<0 then some true else(if(nb x0.Av)=true then some (decide (¬(x0.Ar=0)))else some false))).bind fun o1=>(if o1=true then some false else(((F174 x0.Kind).bind fun t6=>(if t6=true then(F175 x0.Namespace).bind fun t8=>(if t8=true then(F176 x0.Name).bind fun t10=>(if t10=true then(F177 x0.Ax).bind fun t12=>(if t12=true then(F178 x0.AF).bind fun t14=>(if t14=true then(F179 x0.Au).bind fun t16=>(if t16=true then(F180 x0.Aj).bind fun t18=>some t18 else some false)else some false)else some false)else some false)else some false)else some false)).bind fun o5=>some o5)))
def a143:AFn:=⟨58,[(.tmp 2)],
 (.seq (.reg [Qg 1 0,
Qf 2 false])
 (.seq (.seq (.sem (.reg [Qb 3 3 1,
Qd 4 3,
Qb 5 4 1,
Qd 6 5,
Qb 7 5 1,
Qd 8 7,
Qb 9 6 1,
Qd 10 9,
Qb 11 8 1,
Qd 12 11,
sq 13 (.mins (.t 4) [(.t 6),(.t 8),(.t 10),(.t 12)]),
sq 14 (.bin .lss (.t 13) (kI 0)),
Qa 15 14,
Qs 16 15 false 7 1,
Qt 17 15 false 16,
zg 18 15 false (.not (.t 17)),
Qv 19 15 false 18,
Qs 20 19 true 8 1,
Qt 21 19 true 20,
zg 22 19 true (.bin .neq (.t 21) (kI 0)),
zg 23 15 false (.pick (.t 19) (.t 22) (kB false)),
Qj 24 15 23]))
 (.cond (.t 24)
 (.seq (.reg [Qf 2 false])
 .ret)
 .skip))
 (.seq (.sem (.reg [Qb 25 0 1,
Qd 26 25,
Qk 27 174 26,
Qa 28 27,
Qs 29 28 true 1 1,
Qt 30 28 true 29,
zg 31 28 true (.call 175 [(.t 30)]),
Qi 32 28 31,
Qa 33 32,
Qs 34 33 true 2 1,
Qt 35 33 true 34,
zg 36 33 true (.call 176 [(.t 35)]),
Qi 37 33 36,
Qa 38 37,
Qs 39 38 true 9 1,
Qt 40 38 true 39,
zg 41 38 true (.call 177 [(.t 40)]),
Qi 42 38 41,
Qa 43 42,
Qs 44 43 true 10 1,
Qt 45 43 true 44,
zg 46 43 true (.call 178 [(.t 45)]),
Qi 47 43 46,
Qa 48 47,
Qs 49 48 true 11 1,
Qt 50 48 true 49,
zg 51 48 true (.call 179 [(.t 50)]),
Qi 52 48 51,
Qa 53 52,
Qs 54 53 true 12 1,
Qt 55 53 true 54,
zg 56 53 true (.call 180 [(.t 55)]),
Qi 57 53 56,
Qa 2 57]))
 .ret)))⟩
theorem F143_ok{x0 r}(h:F143 x0=some r):An Tryz.prog 143 [.agg (CT x0)] [] (AL [.c (dB r)]) []:=by
 rw[F143]at h
 refine zc a143 (by kernel_rfl) rfl (ww ?_)
 obtain⟨o1,ho,h⟩:=bi h
 refine AB (fun s=>s=⟨[(1,Pz 0),(24,oc (dB o1))],[xb (CT x0)]⟩) ?_ ?_
 ·have h:=ho
  clear ho
  refine ww ?_
  refine Af h (fun g2 h=>ww ?_) (fun g2 h=>ww ?_)
  ·cases h
   exact eM [some 0] rfl
  refine AM h (fun g3 h=>ww ?_) (fun g3 h=>ww ?_)
  ·cases h
   exact eM [some 0] rfl
  cases h
  exact eM [some 0] rfl
 rintro _ rfl
 clear ho
 refine ww ?_
 refine AE h (fun c4 h=>ww ?_) (fun c4 h=>ww ?_)
 ·cases h
  exact eF []
 obtain⟨o5,ho,h⟩:=bi h
 refine AB (fun s=>s=⟨[(2,oc (dB o5))],[]⟩) ?_ ?_
 ·have h:=ho
  clear ho
  refine ww ?_
  obtain⟨t6,ht6,h⟩:=bi h
  refine cN [] (F174_ok ht6) trivial (ww ?_)
  refine AM h (fun g7 h=>ww ?_) (fun g7 h=>ww ?_)
  ·obtain⟨t8,ht8,h⟩:=bi h
   refine cN [] (F175_ok ht8) trivial (ww ?_)
   refine AM h (fun g9 h=>ww ?_) (fun g9 h=>ww ?_)
   ·obtain⟨t10,ht10,h⟩:=bi h
    refine cN [] (F176_ok ht10) trivial (ww ?_)
    refine AM h (fun g11 h=>ww ?_) (fun g11 h=>ww ?_)
    ·obtain⟨t12,ht12,h⟩:=bi h
     refine cN [] (F177_ok ht12) trivial (ww ?_)
     refine AM h (fun g13 h=>ww ?_) (fun g13 h=>ww ?_)
     ·obtain⟨t14,ht14,h⟩:=bi h
      refine cN [] (F178_ok ht14) trivial (ww ?_)
      refine AM h (fun g15 h=>ww ?_) (fun g15 h=>ww ?_)
      ·obtain⟨t16,ht16,h⟩:=bi h
       refine cN [] (F179_ok ht16) trivial (ww ?_)
       refine AM h (fun g17 h=>ww ?_) (fun g17 h=>ww ?_)
       ·obtain⟨t18,ht18,h⟩:=bi h
        refine cN [] (F180_ok ht18) trivial (ww ?_)
        cases h
        exact eM [] rfl
       cases h
       exact eM [] rfl
      cases h
      exact eM [] rfl
     cases h
     exact eM [] rfl
    cases h
    exact eM [] rfl
   cases h
   exact eM [] rfl
  cases h
  exact eM [] rfl
 rintro _ rfl
 clear ho
 refine ww ?_
 cases h
 exact eF []
def F144(x0:Ab):Option (Bool):=(((F181k 1099511627776 x0 12).bind fun t2=>(if t2=true then(F182k 1099511627776 x0).bind fun t4=>some (decide (t4≤600))else some false)).bind fun o1=>some o1)
def a144:AFn:=⟨10,[(.tmp 2)],
 (.seq (.reg [Qg 1 0,
Qf 2 false])
 (.seq (.sem (.reg [Qc 3 5 1,
sq 4 (.call 181 [(.t 3),(kI 12)]),
Qa 5 4,
Qu 6 5 true 5 1,
zg 7 5 true (.call 182 [(.t 6)]),
zg 8 5 true (.bin .leq (.t 7) (kI 600)),
Qi 9 5 8,
Qa 2 9]))
 .ret))⟩
theorem F144_ok{x0 r}(h:F144 x0=some r):An Tryz.prog 144 [.agg (AJ x0)] [] (AL [.c (dB r)]) []:=by
 rw[F144]at h
 refine zc a144 (by kernel_rfl) rfl (ww ?_)
 obtain⟨o1,ho,h⟩:=bi h
 refine AB (fun s=>s=⟨[(2,oc (dB o1))],[]⟩) ?_ ?_
 ·have h:=ho
  clear ho
  refine ww ?_
  obtain⟨t2,ht2,h⟩:=bi h
  refine cN [] (F181k_ok 1099511627776 ht2) trivial (ww ?_)
  refine AM h (fun g3 h=>ww ?_) (fun g3 h=>ww ?_)
  ·obtain⟨t4,ht4,h⟩:=bi h
   refine cN [] (F182k_ok 1099511627776 ht4) trivial (ww ?_)
   cases h
   exact eM [] rfl
  cases h
  exact eM [] rfl
 rintro _ rfl
 clear ho
 refine ww ?_
 cases h
 exact eF []
def F103(x0:Object):Option (Bool):=(((F143 x0.Meta).bind fun t2=>(if t2=true then(F144 x0.Spec).bind fun t4=>(if t4=true then(F144 x0.Status).bind fun t6=>some t6 else some false)else some false)).bind fun o1=>some o1)
def a103:AFn:=⟨16,[(.tmp 2)],
 (.seq (.reg [Qg 1 0,
Qf 2 false])
 (.seq (.sem (.reg [Qb 3 0 1,
Qc 4 13 3,
Qk 5 143 4,
Qa 6 5,
Qs 7 6 true 13 1,
Qu 8 6 true 5 7,
zg 9 6 true (.call 144 [(.t 8)]),
Qi 10 6 9,
Qa 11 10,
Qs 12 11 true 18 1,
Qu 13 11 true 5 12,
zg 14 11 true (.call 144 [(.t 13)]),
Qi 15 11 14,
Qa 2 15]))
 .ret))⟩
theorem F103_ok{x0 r}(h:F103 x0=some r):An Tryz.prog 103 [.agg (Bc x0)] [] (AL [.c (dB r)]) []:=by
 rw[F103]at h
 refine zc a103 (by kernel_rfl) rfl (ww ?_)
 obtain⟨o1,ho,h⟩:=bi h
 refine AB (fun s=>s=⟨[(2,oc (dB o1))],[]⟩) ?_ ?_
 ·have h:=ho
  clear ho
  refine ww ?_
  obtain⟨t2,ht2,h⟩:=bi h
  refine cN [] (F143_ok ht2) trivial (ww ?_)
  refine AM h (fun g3 h=>ww ?_) (fun g3 h=>ww ?_)
  ·obtain⟨t4,ht4,h⟩:=bi h
   refine cN [] (F144_ok ht4) trivial (ww ?_)
   refine AM h (fun g5 h=>ww ?_) (fun g5 h=>ww ?_)
   ·obtain⟨t6,ht6,h⟩:=bi h
    refine cN [] (F144_ok ht6) trivial (ww ?_)
    cases h
    exact eM [] rfl
   cases h
   exact eM [] rfl
  cases h
  exact eM [] rfl
 rintro _ rfl
 clear ho
 refine ww ?_
 cases h
 exact eF []
def F189(rc115:Ab→Ab→Option (Int))(x0:Ay)(x1:Ay):Option (Int):=(F142 x0.Name x1.Name).bind fun t1=>(rc115 x0.V x1.V).bind fun t2=>(F185 ([t1,t2])).bind fun t3=>some t3
def a189:AFn:=⟨17,[(.tmp 4)],
 (.seq (.reg [Qg 2 0,
Qg 3 1,
Qe 4 0])
 (.seq (.regd [Qb 5 0 2,
sd 6 (.load none (.t 5)) [0],
Qb 7 0 3,
sd 8 (.load none (.t 7)) [2],
zn 9 (.call 142 [(.t 6),(.t 8)]) [0,1,2,3] [0,1,2,3],
Qb 10 1 2,
sd 11 (.load (some 5) (.t 10)) [5],
Qb 12 1 3,
sd 13 (.load (some 5) (.t 12)) [7],
zl 14 (.call 148 [(.t 11),(.t 13)]) [0,1,2,3,4,5,6,7,8] [],
zl 15 (.bslice 1 [(.t 9),(.t 14)]) [0,1,2,3,4,5,6,7,8,9] [],
zl 16 (.call 185 [(.t 15)]) [0,1,2,3,4,5,6,7,8,9,10] [],
sd 4 (.mv (.t 16)) [0,1,2,3,4,5,6,7,8,9,10,11]])
 .ret))⟩
theorem F189_ok{rc115:Ab→Ab→Option (Int)}(ih115:∀{x0:Ab} {x1:Ab} {r:Int} (h:rc115 x0 x1=some r),An Tryz.prog 148 [.agg (AJ x0),.agg (AJ x1)] [] (AL [.c (dI r)]) []){x0:Ay}{x1:Ay}{r:Int}(h:F189 rc115 x0 x1=some r):An Tryz.prog 189 [.agg (SE x0),.agg (SE x1)] [] (AL [.c (dI r)]) []:=by
 rw[F189]at h
 refine zc a189 (by kernel_rfl) rfl (ww ?_)
 obtain⟨t1,ht1,h⟩:=bi h
 refine cN [] (F142_ok ht1) trivial (ww ?_)
 obtain⟨t2,ht2,h⟩:=bi h
 refine cN [] (ih115 ht2) trivial (ww ?_)
 refine BE (enc:=eI) (ys:=[t1,t2]) rfl rfl (by simp[A1.cells]) (by first|rfl|(simp only[List.drop_zero,Aw];rfl)|(simp only[lit,List.map_cons,List.map_nil,List.drop_zero,Aw,EE.down];done)|(simp only[lit,List.map_cons,List.map_nil,List.drop_zero,Aw,EE.down];rfl)) (ww ?_)
 obtain⟨t3,ht3,h⟩:=bi h
 refine D8 (F185_ok ht3) (by simp only[Fm,Fs,hp,List.getElem?_cons_zero,List.getElem?_cons_succ,Option.join_some,List.drop_zero,BB,true_and,Nat.zero_add,List.length_map,Nat.le_refl,nrm,List.length_cons,List.length_nil,Nat.reduceAdd,Nat.reduceLeDiff,List.take_succ_cons,List.take_zero,List.take_nil,List.map_cons,List.map_nil,List.length_set,EE.down]) rfl ?_
 refine ww ?_
 cases h
 exact eF []
def F188_l1(rc115:Ab→Ab→Option (Int))(x1:(List Ay)):List Ay→Nat→Option ((Int) ⊕ (Unit))
 |[],o1_0=>some (Sum.inr (()))
 |xo1::xs,o1_0=>(if(x1.length:Int)≤(o1_0:Int)then(some 1).map Sum.inl else(rdI x1 ((o1_0:Int))).bind fun y4=>(F189 rc115 xo1 y4).bind fun t5=>(if¬(t5=0)then(some t5).map Sum.inl else F188_l1 rc115 x1 xs (o1_0+1)))
def F188(rc115:Ab→Ab→Option (Int))(x0:(List Ay))(x1:(List Ay)):Option (Int):=(((ck (0≤x0.length∧x0.length≤4294967290)).bind fun u7=>F188_l1 rc115 x1 x0 0:Option ((Int) ⊕ (Unit))).bind fun o1=>match o1 with|Sum.inl f=>some f|Sum.inr po1=>(if(x0.length:Int)<(x1.length:Int)then some ((-1))else some 0))
def a188:AFn:=⟨39,[(.tmp 6)],
 (.seq (.reg [Qe 6 0])
 (.seq (.seq (.reg [Qa 11 0,
Qh 12 11,
Qe 13 0])
 (.sem (.block 0 (.loop (.seq (.reg [Qn 14 13 12])
 (.seq (.cond (.t 14)
 .skip
 (.exit 0))
 (.seq (.block 1 (.seq (.reg [Qa 15 13,
Qp 16 6 11 13,
Qc 17 6 16,
sq 8 (.zbox [dS ⟨#[]⟩,dI 0,dI 0,dS ⟨#[]⟩,dN,dN]),
Qa 7 15,
su (.store 6 (.t 8) (.t 17))])
 (.seq (.seq (.reg [Qa 18 7,
Qa 19 1,
Qh 20 19,
sq 21 (.bin .geq (.t 18) (.t 20))])
 (.cond (.t 21)
 (.seq (.reg [Qe 6 1])
 .ret)
 .skip))
 (.seq (.reg [Qa 22 1,
Qa 23 7,
Qp 24 6 22 23,
Qc 25 6 24,
sq 9 (.zbox [dS ⟨#[]⟩,dI 0,dI 0,dS ⟨#[]⟩,dN,dN]),
su (.store 6 (.t 9) (.t 25))])
 (.seq (.reg [Qa 26 2,
Qc 27 6 8,
Qc 28 6 9,
sq 29 (.callv (.t 26) [(.t 27),(.t 28)]),
Qa 10 29])
 (.seq (.reg [Qa 30 10,
sq 31 (.bin .neq (.t 30) (kI 0))])
 (.cond (.t 31)
 (.seq (.reg [Qa 32 10,
Qa 6 32])
 .ret)
 .skip)))))))
 (.reg [Qm 33 13 1,
Qa 13 33]))))))))
 (.seq (.seq (.reg [Qa 34 0,
Qh 35 34,
Qa 36 1,
Qh 37 36,
Qn 38 35 37])
 (.cond (.t 38)
 (.seq (.reg [sq 6 (.mv (kI (-1)))])
 .ret)
 .skip))
 (.seq (.reg [Qe 6 0])
 .ret))))⟩
theorem F188_ok{rc115:Ab→Ab→Option (Int)}(ih115:∀{x0:Ab} {x1:Ab} {r:Int} (h:rc115 x0 x1=some r),An Tryz.prog 148 [.agg (AJ x0),.agg (AJ x1)] [] (AL [.c (dI r)]) []){x0:(List Ay)}{x1:(List Ay)}{r:Int}(h:F188 rc115 x0 x1=some r):An Tryz.prog 188 [.c (dM (x0.map Ao)),.c (dM (x1.map Ao)),.c (.fn 189 [])] [] (AL [.c (dI r)]) []:=by
 rw[F188]at h
 refine zc a188 (by kernel_rfl) rfl (ww ?_)
 obtain⟨o1,ho,h⟩:=bi h
 refine AB (fun s=>∃po1,o1=Sum.inr po1∧s=⟨[(0,oc (dM (x0.map Ao))),(1,oc (dM (x1.map Ao)))],[]⟩) ?_ ?_
 ·have h0o1:=h
  have h:=ho
  clear ho
  obtain⟨_,hk,h⟩:=bi h
  have hk:=AS hk
  refine ww ?_
  refine bL (fun j s=>∃(o1_0:Nat),(o1_0≤x0.length∧j=x0.length-o1_0)∧s=⟨[(0,oc (dM (x0.map Ao))),(1,oc (dM (x1.map Ao))),(2,oc (.fn 189 [])),(11,oc (dM (x0.map Ao))),(12,oc (dI ((x0.length:Int)))),(13,oc (dI ((o1_0:Int))))],[]⟩∧F188_l1 rc115 x1 (x0.drop o1_0) o1_0=some o1) (x0.length-0) [] ⟨0,⟨hk.1,rfl⟩,rfl,h⟩ ?_
  rintro _ _ ⟨o1_0,⟨hi,rfl⟩,rfl,h⟩
  refine ww ?_
  refine Bg (fun c2=>?_) (fun c2=>?_)
  ·obtain⟨xo1,hxo1,hd⟩:=A5 (show(o1_0:Int)<(x0.length:Int)from c2)
   rw[hd,F188_l1]at h
   refine ww ?_
   refine Az (enc:=Ao) (xs:=x0) rfl rfl hxo1 (by rw[BA];rfl) (ww ?_)
   refine AH h (fun c3 h=>ww ?_) (fun c3 h=>ww ?_)
   ·obtain⟨fh0o1,hfh0o1,rfl⟩:=Option.map_eq_some_iff.1 h
    have h:=hfh0o1.trans h0o1
    cases h
    exact eF []
   obtain⟨y4,hy4,h⟩:=bi h
   refine Az (enc:=Ao) (xs:=x1) rfl rfl hy4 (by rw[BA];rfl) (ww ?_)
   obtain⟨t5,ht5,h⟩:=bi h
   refine cN [] (F189_ok ih115 ht5) trivial (ww ?_)
   refine AH h (fun c6 h=>ww ?_) (fun c6 h=>ww ?_)
   ·obtain⟨fh0o1,hfh0o1,rfl⟩:=Option.map_eq_some_iff.1 h
    have h:=hfh0o1.trans h0o1
    cases h
    exact eF []
   rw[AW (by omega)]
   exact eL' (x0.length-(o1_0+1)) [] ⟨o1_0+1,⟨by omega,rfl⟩,rfl,h⟩ (by omega)
  rw[A6 (show¬((o1_0:Int)<(x0.length:Int))from c2),F188_l1]at h
  refine ww ?_
  cases h
  exact eM [] ⟨_,rfl,rfl⟩
 rintro _ ⟨po1,rfl,rfl⟩
 clear ho
 dsimp only at h
 refine ww ?_
 refine AH h (fun c8 h=>ww ?_) (fun c8 h=>ww ?_)
 ·cases h
  exact eF []
 cases h
 exact eF []
def F16(x0:Object)(x1:Object):Option (Bool):=(((F41 x0.Meta x1.Meta).bind fun t2=>(if t2=true then(F42 x0.Spec x1.Spec).bind fun t4=>(if t4=true then(F42 x0.Status x1.Status).bind fun t6=>some t6 else some false)else some false)).bind fun o1=>some o1)
def a16:AFn:=⟨24,[(.tmp 4)],
 (.seq (.reg [Qg 2 0,
Qg 3 1,
Qf 4 false])
 (.seq (.sem (.reg [Qb 5 0 2,
Qc 6 13 5,
Qb 7 0 3,
Qc 8 13 7,
Ql 9 41 6 8,
Qa 10 9,
Qs 11 10 true 13 2,
Qu 12 10 true 5 11,
Qs 13 10 true 13 3,
Qu 14 10 true 5 13,
zg 15 10 true (.call 42 [(.t 12),(.t 14)]),
Qi 16 10 15,
Qa 17 16,
Qs 18 17 true 18 2,
Qu 19 17 true 5 18,
Qs 20 17 true 18 3,
Qu 21 17 true 5 20,
zg 22 17 true (.call 42 [(.t 19),(.t 21)]),
Qi 23 17 22,
Qa 4 23]))
 .ret))⟩
theorem F16_ok{x0 x1 r}(h:F16 x0 x1=some r):An Tryz.prog 16 [.agg (Bc x0),.agg (Bc x1)] [] (AL [.c (dB r)]) []:=by
 rw[F16]at h
 refine zc a16 (by kernel_rfl) rfl (ww ?_)
 obtain⟨o1,ho,h⟩:=bi h
 refine AB (fun s=>s=⟨[(4,oc (dB o1))],[]⟩) ?_ ?_
 ·have h:=ho
  clear ho
  refine ww ?_
  obtain⟨t2,ht2,h⟩:=bi h
  refine cN [] (F41_ok ht2) trivial (ww ?_)
  refine AM h (fun g3 h=>ww ?_) (fun g3 h=>ww ?_)
  ·obtain⟨t4,ht4,h⟩:=bi h
   refine cN [] (F42_ok ht4) trivial (ww ?_)
   refine AM h (fun g5 h=>ww ?_) (fun g5 h=>ww ?_)
   ·obtain⟨t6,ht6,h⟩:=bi h
    refine cN [] (F42_ok ht6) trivial (ww ?_)
    cases h
    exact eM [] rfl
   cases h
   exact eM [] rfl
  cases h
  exact eM [] rfl
 rintro _ rfl
 clear ho
 refine ww ?_
 cases h
 exact eF []
end Go.Proofs.YtdkmamiedcanfaaGreat
