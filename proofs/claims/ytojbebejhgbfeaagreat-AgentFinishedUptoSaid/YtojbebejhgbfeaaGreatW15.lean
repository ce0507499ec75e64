/- Each Go function as a function over typed data, and its walk. -/
import Derived.Test.YtojbebejhgbfeaaGreatW0
import Derived.Test.YtojbebejhgbfeaaGreatW4
import Derived.Test.YtojbebejhgbfeaaGreatW10
import Derived.Test.YtojbebejhgbfeaaGreatW11
import Derived.Test.YtojbebejhgbfeaaGreatW12
import Derived.Test.YtojbebejhgbfeaaGreatW13
open Option renaming some->XC,none->XD
open Go.IntKind renaming i64->XF
open Bool renaming false->XG,true->XH
open Go.Proofs.Tryz renaming prog->XI
open Nat renaming lt_succ_self->XJ
open List renaming length_set->XK
namespace Go.Proofs.YtojbebejhgbfeaaGreat
open Go Go.Fw Go.Shelf
set_option maxRecDepth 100000
set_option maxHeartbeats 4000000
set_option linter.unusedSimpArgs false
set_option linter.unusedVariables false
def F39(x1:ByteArray)(b0:gM):Option (Int×Bool):=(F76 b0.ah.bq x1).bind fun t1=>XC ((t1.1,t1.2))
def a39:dG:=⟨15,[(.tmp 4),(.tmp 5)],
 (.seq (.reg [Qe 4 0,
Qf 5 XG])
 (.seq (.reg [Qa 6 0,
Qb 7 0 6,
Qb 8 0 7,
Qb 9 25 8,
Qd 10 9,
Qa 11 1,
sq 12 (.call 76 [(.t 10),(.t 11),(.f 77)]),
Qo 13 12 0,
Qo 14 12 1,
Qa 4 13,
Qa 5 14])
 .ret))⟩
theorem F39_ok{x1 b0 r}{e1:Nat}(h:F39 x1 b0=XC r):aW XI 39 [.c (.pt 0 0),.c (dS x1)] [xb (fc b0 (ow 1 e1 b0.ah.bq)),ai e1 b0.ah.bq] (bJ [.c (dI r.1),.c (dB r.2)]) [xb (fc b0 (ow 1 e1 b0.ah.bq)),ai e1 b0.ah.bq]:=by
 rw[F39]at h
 refine zc a39 (by kernel_rfl) rfl (ww ?_)
 obtain⟨t1,ht1,h⟩:=bi h
 refine cB (F76_ok ht1) rfl ?_
 refine ww ?_
 cases h
 exact eF i2
def F117_l1:List au→Nat→Int→aD→Option (Int×aD)
 |[],o1_2,o1_0,o1_1=>XC ((o1_0,o1_1))
 |xo1::xs,o1_2,o1_0,o1_1=>(((F10062 xo1).bind fun t4=>(if(nb t4)=XH then(F83 xo1.an.Spec).bind fun t6=>(F132 o1_1 t6).bind fun t7=>XC (((XF.wrap (o1_0+1)),t7))else XC ((o1_0,o1_1)))).bind fun o3=>F117_l1 xs (o1_2+1) o3.1 o3.2)
def F117(b0:gM):Option (Int×aD):=(((ck (0≤b0.ah.bq.length∧b0.ah.bq.length≤4294967290)).bind fun u8=>F117_l1 b0.ah.bq 0 0 ((⟨0,0,0⟩:aD))).bind fun o1=>XC ((o1.1,o1.2)))
def a117:dG:=⟨32,[(.tmp 2),(.cell 3 (XC 3))],
 (.seq (.reg [Qe 2 0,
zl 3 (.zbox [dI 0,dI 0,dI 0]) [] []])
 (.seq (.reg [Qe 4 0])
 (.seq (.reg [zl 5 (.zbox [dI 0,dI 0,dI 0]) [] []])
 (.seq (.seq (.reg [Qa 8 0,
Qb 9 0 8,
Qb 10 0 9,
Qb 11 25 10,
Qd 12 11,
Qh 13 12,
Qe 14 0])
 (.sem (.block 0 (.loop (.seq (.reg [Qn 15 14 13])
 (.seq (.cond (.t 15)
 .skip
 (.exit 0))
 (.seq (.sem (.block 1 (.seq (.reg [Qp 16 36 12 14,
Qc 17 36 16,
sq 7 (.zbox Fk),
su (.store 36 (.t 7) (.t 17))])
 (.seq (.reg [Qc 18 36 7,
Qk 19 62 18,
Qq 20 19])
 (.cond (.t 20)
 (.seq (.reg [Qa 21 4,
Qm 22 21 1,
Qa 4 22])
 (.regd [Qc 23 3 5,
Qb 24 0 7,
sd 25 (.fieldA 13 (.t 24)) [1],
sd 26 (.load (XC 10) (.t 25)) [1,2],
zl 27 (.call 83 [(.t 26)]) [1,2,3] [5],
zl 28 (.call 132 [(.t 23),(.t 27)]) [0,1,2,3,4] [],
⟨XD,XD,.store 3 (.t 5) (.t 28),[0,1,2,3,4,5],(.lone [])⟩]))
 .skip)))))
 (.reg [Qm 29 14 1,
Qa 14 29]))))))))
 (.seq (.regd [Qa 30 4,
Qc 31 3 5,
sd 2 (.mv (.t 30)) [0],
⟨XD,XD,.store 3 (.t 3) (.t 31),[0,1,2],(.lone [])⟩])
 .ret)))))⟩
theorem F117_ok{b0 r}{e1:Nat}(h:F117 b0=XC r):aW XI 117 [.c (.pt 0 0)] [xb (fc b0 (ow 1 e1 b0.ah.bq)),ai e1 b0.ah.bq] (bJ [.c (dI r.1),.agg (b6 (r.2))]) [xb (fc b0 (ow 1 e1 b0.ah.bq)),ai e1 b0.ah.bq]:=by
 rw[F117]at h
 refine zc a117 (by kernel_rfl) rfl (ww ?_)
 obtain⟨o1,ho,h⟩:=bi h
 refine bD (fun s=>s=⟨[(3,Pz 2),(4,oI o1.1),(5,Pz 3)],[xb (fc b0 (ow 1 e1 b0.ah.bq)),ai e1 b0.ah.bq,xb [dI 0,dI 0,dI 0],xb (b6 (o1.2))]⟩) ?_ ?_
 ·have h:=ho
  obtain⟨_,hk,h⟩:=bi h
  have hk:=cr hk
  refine ww ?_
  refine bL (fun j s=>∃(o1_2:Nat) (o1_0:Int) (o1_1:aD),(o1_2≤b0.ah.bq.length∧j=b0.ah.bq.length-o1_2)∧s=⟨[(3,Pz 2),(4,oI o1_0),(5,Pz 3),(12,oc (ow 1 e1 b0.ah.bq)),(13,oI (b0.ah.bq.length:Int)),(14,oI (o1_2:Int))],[xb (fc b0 (ow 1 e1 b0.ah.bq)),ai e1 b0.ah.bq,xb [dI 0,dI 0,dI 0],xb (b6 (o1_1))]⟩∧F117_l1 (b0.ah.bq.drop o1_2) o1_2 o1_0 o1_1=XC o1) (b0.ah.bq.length-0) i4 ⟨0,0,(⟨0,0,0⟩:aD),⟨hk.1,rfl⟩,rfl,h⟩ ?_
  rintro _ _ ⟨o1_2,o1_0,o1_1,⟨hi,rfl⟩,rfl,h⟩
  refine ww ?_
  refine dq (fun c2=>?_) (fun c2=>?_)
  ·obtain⟨xo1,hxo1,hd⟩:=cW (show(o1_2:Int)<(b0.ah.bq.length:Int)from c2)
   rw[hd,F117_l1]at h
   refine ww ?_
   obtain⟨o3,ho,h⟩:=bi h
   refine bD (fun s=>s=⟨[(3,Pz 2),(4,oI o3.1),(5,Pz 3),(12,oc (ow 1 e1 b0.ah.bq)),(13,oI (b0.ah.bq.length:Int)),(14,oI (o1_2:Int))],[xb (fc b0 (ow 1 e1 b0.ah.bq)),ai e1 b0.ah.bq,xb [dI 0,dI 0,dI 0],xb (b6 (o3.2))]⟩) ?_ ?_
   ·have h:=ho
    refine ww ?_
    refine tO (enc:=aS) (xs:=b0.ah.bq) rfl rfl rfl hxo1 (ww ?_)
    refine cD.rd (aQ hxo1).2.1 (ww ?_)
    obtain⟨t4,ht4,h⟩:=bi h
    have qx:=q1 (cb hxo1)
    refine cQ [] (F10062_ok ht4) (ww ?_)
    refine ct h (fun c5 h=>ww ?_) (fun c5 h=>ww ?_)
    ·obtain⟨t6,ht6,h⟩:=bi h
     have qx:=q1 (cb hxo1)
     refine cQ [] (F83_ok ht6) (ww ?_)
     obtain⟨t7,ht7,h⟩:=bi h
     have qx:=q1 (cb hxo1)
     refine cQ [] (F132_ok ht7) (ww ?_)
     cases h
     have qx:=q1 (cb hxo1)
     exact fI i4 rfl
    cases h
    have qx:=q1 (cb hxo1)
    exact fI i4 rfl
   rintro _ rfl
   refine ww ?_
   rw[cL (by omega)]
   exact jo (b0.ah.bq.length-(o1_2+1)) i4 ⟨o1_2+1,o3.1,o3.2,⟨by omega,rfl⟩,rfl,h⟩ (by omega)
  rw[cX (show¬((o1_2:Int)<(b0.ah.bq.length:Int))from c2),F117_l1]at h
  refine ww ?_
  cases h
  exact eM i4 rfl
 rintro _ rfl
 refine ww ?_
 cases h
 exact eF i2
def F221_l1(x1:Int):Nat→(List Entry)→Int→Int→Option ((List Entry)×Int)
 |0,_,_,_=>XD
 |k+1,o1_0,o1_1,o1_2=>(if o1_2≤x1 then(F226 o1_0 o1_1 o1_2).bind fun t3=>F221_l1 x1 k t3 o1_2 ((XF.wrap (o1_2+20)))else XC ((o1_0,o1_1)))
def F221_l7(o5_1:Int)(x1:Int):Nat→(List Entry)→Int→Int→Option ((List Entry)×Int)
 |0,_,_,_=>XD
 |k+1,o7_0,o7_1,o7_2=>(if o7_2≤x1 then(F227k 1099511627776 o7_0 o7_1 ((XF.wrap (o7_1+o5_1))) o7_2).bind fun t9=>F221_l7 o5_1 x1 k t9 o7_2 ((XF.wrap (o7_2+((XF.wrap (2*o5_1))))))else XC ((o7_0,o7_1)))
def F221_l5(x1:Int):Nat→(List Entry)→Int→Option ((List Entry))
 |0,_,_=>XD
 |k+1,o5_0,o5_1=>(if o5_1<x1 then((F221_l7 o5_1 x1 1099511627776 o5_0 0 ((XF.wrap (2*o5_1)))).bind fun o7=>(((if(XF.wrap (o7.2+o5_1))<x1 then(F227k 1099511627776 o7.1 o7.2 ((XF.wrap (o7.2+o5_1))) x1).bind fun t12=>XC t12 else XC o7.1)).bind fun o10=>F221_l5 x1 k o10 ((XF.wrap (o5_1*2)))))else XC o5_0)
def F221i(x0:(List Entry))(x1:Int):Option ((List Entry)):=((F221_l1 x1 1099511627776 x0 0 20).bind fun o1=>(F226 o1.1 o1.2 x1).bind fun t4=>((F221_l5 x1 1099511627776 t4 20).bind fun o5=>XC o5))
def F221(x0:(List Entry))(x1:Int):Option ((List Entry)):=(F221i x0 x1).bind fun r=>if r.length=x0.length then XC r else XD
theorem F221_len0{x0:(List Entry)}{x1:Int}{r:(List Entry)}(h:F221 x0 x1=XC r):r.length=x0.length:=(bp h).2
def a221:dG:=⟨63,[],
 (.seq (.reg [Qe 6 20])
 (.seq (.reg [Qa 10 6,
Qe 7 0,
Qa 8 10])
 (.seq (.sem (.block 0 (.loop (.seq (.seq (.reg [Qa 11 8,
Qa 12 1,
sq 13 (.bin .leq (.t 11) (.t 12))])
 (.cond (.t 13)
 .skip
 (.exit 0)))
 (.block 1 (.seq (.reg [Qa 14 0,
Qa 15 7,
Qa 16 8,
Qa 17 2,
zl 18 (.call 226 [(.t 14),(.t 15),(.t 16),(.t 17)]) [] []])
 (.seq (.reg [Qa 19 8,
Qa 7 19])
 (.reg [Qa 20 8,
Qa 21 6,
sq 22 (.bin .add (.t 20) (.t 21)),
Qa 8 22]))))))))
 (.seq (.reg [Qa 23 0,
Qa 24 7,
Qa 25 1,
Qa 26 2,
zl 27 (.call 226 [(.t 23),(.t 24),(.t 25),(.t 26)]) [] []])
 (.sem (.block 2 (.loop (.seq (.seq (.reg [Qa 28 6,
Qa 29 1,
Qn 30 28 29])
 (.cond (.t 30)
 .skip
 (.exit 2)))
 (.block 3 (.seq (.reg [Qa 31 6,
sq 32 (.bin .mul (kI 2) (.t 31)),
Qe 7 0,
Qa 8 32])
 (.seq (.sem (.block 4 (.loop (.seq (.seq (.reg [Qa 33 8,
Qa 34 1,
sq 35 (.bin .leq (.t 33) (.t 34))])
 (.cond (.t 35)
 .skip
 (.exit 4)))
 (.block 5 (.seq (.reg [Qa 36 0,
Qa 37 7,
Qa 38 7,
Qa 39 6,
sq 40 (.bin .add (.t 38) (.t 39)),
Qa 41 8,
Qa 42 2,
zl 43 (.call 227 [(.t 36),(.t 37),(.t 40),(.t 41),(.t 42)]) [] []])
 (.seq (.reg [Qa 44 8,
Qa 7 44])
 (.reg [Qa 45 8,
Qa 46 6,
sq 47 (.bin .mul (kI 2) (.t 46)),
sq 48 (.bin .add (.t 45) (.t 47)),
Qa 8 48]))))))))
 (.seq (.sem (.seq (.reg [Qa 49 7,
Qa 50 6,
sq 51 (.bin .add (.t 49) (.t 50)),
Qa 9 51])
 (.seq (.reg [Qa 52 9,
Qa 53 1,
Qn 54 52 53])
 (.cond (.t 54)
 (.reg [Qa 55 0,
Qa 56 7,
Qa 57 9,
Qa 58 1,
Qa 59 2,
zl 60 (.call 227 [(.t 55),(.t 56),(.t 57),(.t 58),(.t 59)]) [] []])
 .skip))))
 (.reg [Qa 61 6,
sq 62 (.bin .mul (.t 61) (kI 2)),
Qa 6 62])))))))))))))⟩
theorem F221_ok{x0 x1 r}{e0:Nat}(h:F221 x0 x1=XC r):aW XI 221 [.c (ow 0 e0 x0),.c (dI x1),.c (.fn 196 [])] [cA e0 x0] (bJ []) [cA e0 r]:=by
 replace h:=(bp h).1
 rw[F221i]at h
 refine zc a221 (by kernel_rfl) rfl (ww ?_)
 obtain⟨o1,ho,h⟩:=bi h
 refine bD (fun s=>s=⟨[(0,oc (ow 0 e0 o1.1)),(1,oI x1),(2,oc (.fn 196 [])),(6,oI 20),(7,oI o1.2)],[cA e0 o1.1]⟩) ?_ ?_
 ·have h:=ho
  refine ww ?_
  refine bL (fun j s=>∃(o1_0:List Entry) (o1_1:Int) (o1_2:Int),s=⟨[(0,oc (ow 0 e0 o1_0)),(1,oI x1),(2,oc (.fn 196 [])),(6,oI 20),(7,oI o1_1),(8,oI o1_2)],[cA e0 o1_0]⟩∧F221_l1 x1 j o1_0 o1_1 o1_2=XC o1) 1099511627776 [XC 0] ⟨x0,0,20,rfl,h⟩ ?_
  rintro j _ ⟨o1_0,o1_1,o1_2,rfl,h⟩
  cases j with
  |zero=>cases(show(XD:Option _)=XC _ from h)
  |succ j=>
   rw[F221_l1]at h
   refine ww ?_
   refine bG h (fun c2 h=>ww ?_) (fun c2 h=>?_)
   ·obtain⟨t3,ht3,h⟩:=bi h
    refine cN [0] (F226_ok (e0:=e0) ht3) ⟨⟨rfl,trivial⟩,trivial⟩ ?_
    refine ww ?_
    have qx:=q1 (F226_len0 ht3)
    exact iI j [XC 0] ⟨t3,o1_2,(XF.wrap (o1_2+20)),rfl,h⟩ (XJ _)
   ·refine ww ?_
    cases h
    exact eM [XC 0] rfl
 rintro _ rfl
 refine ww ?_
 obtain⟨t4,ht4,h⟩:=bi h
 refine cN [0] (F226_ok (e0:=e0) ht4) ⟨⟨rfl,trivial⟩,trivial⟩ ?_
 refine ww ?_
 obtain⟨o5,ho,h⟩:=bi h
 refine bD (fun s=>s=⟨[],[cA e0 o5]⟩) ?_ ?_
 ·have h:=ho
  refine ww ?_
  have qx:=q1 (F226_len0 ht4)
  refine Ph (fun j s=>∃(o5_0:List Entry) (o5_1:Int),s=⟨[(0,oc (ow 0 e0 o5_0)),(1,oI x1),(2,oc (.fn 196 [])),(6,oI o5_1)],[cA e0 o5_0]⟩∧F221_l5 x1 j o5_0 o5_1=XC o5) 1099511627776 [XC 0] ⟨t4,20,rfl,h⟩ ?_
  rintro j _ ⟨o5_0,o5_1,rfl,h⟩
  cases j with
  |zero=>cases(show(XD:Option _)=XC _ from h)
  |succ j=>
   rw[F221_l5]at h
   refine ww ?_
   refine bG h (fun c6 h=>ww ?_) (fun c6 h=>?_)
   ·obtain⟨o7,ho,h⟩:=bi h
    refine bD (fun s=>s=⟨[(0,oc (ow 0 e0 o7.1)),(1,oI x1),(2,oc (.fn 196 [])),(6,oI o5_1),(7,oI o7.2)],[cA e0 o7.1]⟩) ?_ ?_
    ·have h:=ho
     refine ww ?_
     have qx:=q1 (F226_len0 ht4)
     refine Ph (fun j s=>∃(o7_0:List Entry) (o7_1:Int) (o7_2:Int),s=⟨[(0,oc (ow 0 e0 o7_0)),(1,oI x1),(2,oc (.fn 196 [])),(6,oI o5_1),(7,oI o7_1),(8,oI o7_2)],[cA e0 o7_0]⟩∧F221_l7 o5_1 x1 j o7_0 o7_1 o7_2=XC o7) 1099511627776 [XC 0] ⟨o5_0,0,(XF.wrap (2*o5_1)),rfl,h⟩ ?_
     rintro j _ ⟨o7_0,o7_1,o7_2,rfl,h⟩
     cases j with
     |zero=>cases(show(XD:Option _)=XC _ from h)
     |succ j=>
      rw[F221_l7]at h
      refine ww ?_
      refine bG h (fun c8 h=>ww ?_) (fun c8 h=>?_)
      ·obtain⟨t9,ht9,h⟩:=bi h
       have qx:=q1 (F226_len0 ht4)
       refine cQ [0] (F227k_ok 1099511627776 (e0:=e0) ht9) (ww ?_)
       have qx:=q2 (F226_len0 ht4) (F227k_len0 ht9)
       exact iI j [XC 0] ⟨t9,o7_2,(XF.wrap (o7_2+((XF.wrap (2*o5_1))))),rfl,h⟩ (XJ _)
      ·refine ww ?_
       cases h
       have qx:=q1 (F226_len0 ht4)
       exact fI [XC 0] rfl
    ·rintro _ rfl
     refine ww ?_
     obtain⟨o10,ho,h⟩:=bi h
     refine bD (fun s=>s=⟨[(0,oc (ow 0 e0 o10)),(1,oI x1),(2,oc (.fn 196 [])),(6,oI o5_1)],[cA e0 o10]⟩) ?_ ?_
     ·have h:=ho
      refine ww ?_
      refine bG h (fun c11 h=>ww ?_) (fun c11 h=>?_)
      ·obtain⟨t12,ht12,h⟩:=bi h
       have qx:=q1 (F226_len0 ht4)
       refine cQ [0] (F227k_ok 1099511627776 (e0:=e0) ht12) (ww ?_)
       cases h
       have qx:=q2 (F226_len0 ht4) (F227k_len0 ht12)
       exact fI [XC 0] rfl
      ·refine ww ?_
       cases h
       have qx:=q1 (F226_len0 ht4)
       exact fI [XC 0] rfl
     ·rintro _ rfl
      refine ww ?_
      have qx:=q1 (F226_len0 ht4)
      exact iI j [XC 0] ⟨o10,(XF.wrap (o5_1*2)),rfl,h⟩ (XJ _)
   ·refine ww ?_
    cases h
    have qx:=q1 (F226_len0 ht4)
    exact fI [XC 0] rfl
 rintro _ rfl
 refine ww ?_
 cases h
 have qx:=q1 (F226_len0 ht4)
 exact tg [XC 0]
def wI:AC:=(.block 0 (.seq (.reg [Qa 42 7,
sq 43 (.bin .lss (.t 42) (kI 0)),
Qa 41 43])
 (.cond (.t 41)
 .skip
 (.seq (.reg [Qb 45 0 3,
Qd 46 45,
Qr 47 46 4,
Qa 44 47])
 (.cond (.t 44)
 (.seq (.reg [Qa 48 6,
Qb 49 0 48,
Qb 50 0 49,
Qb 51 23 50,
Qb 52 5 51,
Qd 53 52,
Qa 54 7,
Qp 55 7 53 54,
Qb 56 1 55,
Qd 57 56,
Qr 58 57 1])
 (.cond (.t 58)
 (.reg [Qa 59 0,
Qa 60 6,
Qa 61 7,
Qb 62 1 3,
Qd 63 62,
zl 64 (.call 79 [(.t 59),(.t 60),(.t 61),(.t 63)]) [] [3,62]])
 .skip))
 (.seq (.sem (.reg [Qb 66 1 3,
Qd 67 66,
sq 68 (.bin .geq (.t 67) (kI 1)),
Qa 69 68,
Qs 70 69 XH 1 3,
Qt 71 69 XH 70,
zg 72 69 XH (.bin .leq (.t 71) (kI 3)),
Qi 73 69 72,
Qa 65 73]))
 (.cond (.t 65)
 (.reg [Qa 74 0,
Qa 75 6,
Qa 76 7,
Qb 77 1 3,
Qd 78 77,
sq 79 (.bin .sub (.t 78) (kI 1)),
Qb 80 4 3,
Qd 81 80,
zl 82 (.call 80 [(.t 74),(.t 75),(.t 76),(.t 79),(.t 81)]) [] [3,77,3,80]])
 .skip)))))))
def F30041f(e1:Nat)(b0:aj)(dd:List au)(v:aN)(j:Int)(x:af):Option ((List ag)×(List aF)×(List cp)):=(if j<0 then XC ((x.an.ae.ad,x.aK,x.aq))else(if v.bY=4 then(cI x.an.ae.ad j).bind fun y3=>(if y3.bH=1 then(F79 j v.N b0 x).bind fun t5=>XC ((t5.1,x.aK,t5.2))else XC ((x.an.ae.ad,x.aK,x.aq)))else(((if 1≤v.N then XC (decide (v.N≤3))else XC XG)).bind fun o6=>(if o6=XH then(F80 j ((XF.wrap (v.N-1))) v.Ok b0 x).bind fun t9=>XC ((t9.1,t9.2.1,t9.2.2))else XC ((x.an.ae.ad,x.aK,x.aq))))))
theorem F30041f_ok{e1 b0 dd v j x r}(h:F30041f e1 b0 dd v j x=XC r):sK XI 83 4 wI [] (sM 83 4 (fun s=>s=⟨[(0,Pz 0)],[xb (cj b0),ai e1 dd,xb (aZ v),xb (bj x (ow 4 0 r.1) (ow 5 0 r.2.1) (ow 6 0 r.2.2)),aE 0 r.1,aU 0 r.2.1,bQ 0 r.2.2]⟩) (xQ 83 4 (fun _ _=>False) (fun _=>False)))
 ⟨[(0,Pz 0),(3,Pz 2),(6,Pz 3),(7,oI j)],[xb (cj b0),ai e1 dd,xb (aZ v),xb (bj x (ow 4 0 x.an.ae.ad) (ow 5 0 x.aK) (ow 6 0 x.aq)),aE 0 x.an.ae.ad,aU 0 x.aK,bQ 0 x.aq]⟩:=by
 rw[F30041f]at h
 unfold wI
 refine ww ?_
 refine bG h (fun c1 h=>ww ?_) (fun c1 h=>?_)
 ·cases h
  exact eM i7 rfl
 ·refine ww ?_
  refine bG h (fun c2 h=>ww ?_) (fun c2 h=>?_)
  ·obtain⟨y3,hy3,h⟩:=bi h
   refine tO (enc:=aC) (xs:=x.an.ae.ad) rfl rfl rfl hy3 (ww ?_)
   refine cD.rd (aQ hy3).2.1 (ww ?_)
   refine bG h (fun c4 h=>ww ?_) (fun c4 h=>?_)
   ·obtain⟨t5,ht5,h⟩:=bi h
    have qx:=q1 (bc hy3)
    refine cQ [0,3,4,5,6] (F79_ok (e2:=0) (e3:=0) (e4:=0) ht5) (ww ?_)
    cases h
    have qx:=q3 (F79_len2 ht5) (F79_len4 ht5) (bc hy3)
    exact fI i7 rfl
   ·refine ww ?_
    cases h
    have qx:=q1 (bc hy3)
    exact fI i7 rfl
  ·refine ww ?_
   obtain⟨o6,ho,h⟩:=bi h
   refine bD (fun s=>s=⟨[(0,Pz 0),(3,Pz 2),(6,Pz 3),(7,oI j),(65,oB o6)],[xb (cj b0),ai e1 dd,xb (aZ v),xb (bj x (ow 4 0 x.an.ae.ad) (ow 5 0 x.aK) (ow 6 0 x.aq)),aE 0 x.an.ae.ad,aU 0 x.aK,bQ 0 x.aq]⟩) ?_ ?_
   ·have h:=ho
    refine ww ?_
    refine bR h (fun g7 h=>ww ?_) (fun g7 h=>?_)
    ·cases h
     exact eM i7 rfl
    ·refine ww ?_
     cases h
     exact eM i7 rfl
   ·rintro _ rfl
    refine ww ?_
    refine ct h (fun c8 h=>ww ?_) (fun c8 h=>?_)
    ·obtain⟨t9,ht9,h⟩:=bi h
     refine cN [0,3,4,5,6] (F80_ok (e2:=0) (e3:=0) (e4:=0) ht9) ⟨⟨(by first|rfl|(simp only[XK];rfl)),by simp[bw.live,C.live,hp]⟩,⟨⟨(by first|rfl|(simp only[XK];rfl)),by simp[bw.live,C.live,hp]⟩,⟨⟨rfl,trivial⟩,⟨⟨rfl,trivial⟩,⟨⟨rfl,trivial⟩,trivial⟩⟩⟩⟩⟩ ?_
     refine ww ?_
     cases h
     have qx:=q3 (F80_len2 ht9) (F80_len3 ht9) (F80_len4 ht9)
     exact fI i7 rfl
    ·refine ww ?_
     cases h
     exact eM i7 rfl
def F30075e_l8:List aP→Nat→(List ag)→Option ((List ag))
 |[],o8_1,o8_0=>XC o8_0
 |xo8::xs,o8_1,o8_0=>(jz o8_0 ([(⟨xo8.aV,0,0,0,0,XG,XG⟩:ag)])).bind fun a10=>F30075e_l8 xs (o8_1+1) a10
def wB:AC:=(.sem (.seq (.sem (.regd [Qa 25 6,
Qa 26 0,
sd 27 (.fieldA 0 (.t 26)) [1],
sd 28 (.fieldA 0 (.t 27)) [1,2],
sd 29 (.fieldA 0 (.t 28)) [1,2,3],
sd 30 (.fieldA 16 (.t 29)) [1,2,3,4],
sd 31 (.load XD (.t 30)) [1,2,3,4,5],
sd 32 (.bin .lss (.t 25) (.t 31)) [0,1,2,3,4,5,6],
sd 33 (.mv (.t 32)) [0,1,2,3,4,5,6,7],
⟨(XC 34),(XC (33,XH)),.fieldA 13 (.t 5),[0,1,2,3,4,5,6,7,8],(.new [])⟩,
⟨(XC 35),(XC (33,XH)),.load (XC 10) (.t 34),[0,1,2,3,4,5,6,7,8,9],(.new [])⟩,
⟨(XC 36),(XC (33,XH)),.call 83 [(.t 35)],[0,1,2,3,4,5,6,7,8,9,10],(.new [9,10])⟩,
⟨(XC 37),(XC (33,XH)),.mv (.t 0),[0,1,2,3,4,5,6,7,8],(.new [])⟩,
⟨(XC 38),(XC (33,XH)),.fieldA 0 (.t 37),[0,1,2,3,4,5,6,7,8,12],(.new [])⟩,
⟨(XC 39),(XC (33,XH)),.fieldA 0 (.t 38),[0,1,2,3,4,5,6,7,8,12,13],(.new [])⟩,
⟨(XC 40),(XC (33,XH)),.fieldA 0 (.t 39),[0,1,2,3,4,5,6,7,8,12,13,14],(.new [])⟩,
⟨(XC 41),(XC (33,XH)),.fieldA 13 (.t 40),[0,1,2,3,4,5,6,7,8,12,13,14,15],(.new [])⟩,
⟨(XC 42),(XC (33,XH)),.load (XC 3) (.t 41),[0,1,2,3,4,5,6,7,8,12,13,14,15,16],(.new [])⟩,
⟨(XC 43),(XC (33,XH)),.load (XC 3) (.t 7),[0,1,2,3,4,5,6,7,8],(.new [])⟩,
⟨(XC 44),(XC (33,XH)),.call 119 [(.t 42),(.t 43)],[0,1,2,3,4,5,6,7,8,9,10,11,12,13,14,15,16,17,18],(.lone [])⟩,
⟨(XC 45),(XC (33,XH)),.call 118 [(.t 36),(.t 44)],[0,1,2,3,4,5,6,7,8,9,10,11,12,13,14,15,16,17,18,19],(.lone [])⟩,
zl 46 (.pick (.t 33) (.t 45) (kB XG)) [0,1,2,3,4,5,6,7,8,9,10,11,12,13,14,15,16,17,18,19,20] []]))
 (.cond (.t 46)
 (.seq (.reg [Qb 47 0 8,
Qb 48 23 47,
Qb 49 0 48,
⟨XD,XD,.store 1 (.t 49) (kI 0),[],(.lone [8,47,48])⟩])
 (.seq (.reg [Qa 50 0,
Qb 51 0 50,
Qb 52 0 51,
Qb 53 29 52,
Qd 54 53,
Qb 55 0 8,
Qb 56 23 55,
Qb 57 6 56,
⟨XD,XD,.store 1 (.t 57) (.t 54),[],(.lone [50,51,52,53,8,55,56])⟩])
 (.seq (.reg [Qa 58 0,
Qb 59 0 58,
Qb 60 0 59,
Qb 61 29 60,
Qd 62 61,
Qm 63 62 1,
Qb 64 0 58,
Qb 65 0 64,
Qb 66 29 65,
⟨XD,XD,.store 1 (.t 66) (.t 63),[],(.lone [58,59,60,61,58,64,65])⟩])
 (.seq (.seq (.reg [Qb 67 13 5,
Qb 68 4 67,
Qd 69 68,
Qh 70 69,
Qe 71 0])
 (.sem (.block 0 (.loop (.seq (.reg [Qn 72 71 70])
 (.seq (.cond (.t 72)
 .skip
 (.exit 0))
 (.seq (.block 1 (.seq (.reg [Qp 73 11 69 71,
Qc 74 11 73,
sq 10 (.zbox [dS ⟨#[]⟩,dS ⟨#[]⟩,dI 0,dI 0,dI 0,dI 0,dI 0,dI 0,dN,dN,dN]),
su (.store 11 (.t 10) (.t 74))])
 (.reg [Qb 75 0 8,
Qb 76 23 75,
Qb 77 5 76,
Qd 78 77,
Qb 79 0 10,
Qd 80 79,
sq 81 (.build [dS ⟨#[]⟩,dI 0,dI 0,dI 0,dI 0,dB XG,dB XG] [(0,1,(.t 80)),(1,1,(kI 0))]),
sq 82 (.bslice 7 [(.t 81)]),
sq 83 (.app 7 56 (.t 78) (.t 82)),
Qb 84 0 8,
Qb 85 23 84,
Qb 86 5 85,
su (.store 1 (.t 86) (.t 83))])))
 (.reg [Qm 87 71 1,
Qa 71 87]))))))))
 (.seq (.reg [Qb 88 13 5,
Qb 89 4 88,
Qd 90 89,
Qh 91 90,
sq 92 (.mk 2 16 [.v (.int .i64 0),.v (.int .i64 0)] (.t 91) (.t 91)),
Qb 93 33 8,
su (.store 1 (.t 93) (.t 92))])
 (.reg [Qb 94 13 5,
Qb 95 4 94,
Qd 96 95,
Qh 97 96,
sq 98 (.bin .mul (kI 3) (.t 97)),
sq 99 (.mk 4 32 [.v (.int .i64 0),.v (.int .i64 0),.v (.bool XG),.v (.int .i64 0)] (.t 98) (.t 98)),
Qb 100 32 8,
su (.store 1 (.t 100) (.t 99))]))))))
 (.seq (.reg [Qb 101 0 8,
Qb 102 23 101,
Qb 103 0 102,
⟨XD,XD,.store 1 (.t 103) (kI 3),[],(.lone [8,101,102])⟩])
 (.seq (.reg [Qb 104 0 8,
Qb 105 23 104,
Qb 106 8 105,
⟨XD,XD,.store 1 (.t 106) (kS ⟨#[79,117,116,79,102,82,101,115,111,117,114,99,101,115]⟩),[],(.lone [8,104,105])⟩])
 (.reg [Qa 107 0,
Qb 108 0 107,
Qb 109 0 108,
Qb 110 24 109,
Qd 111 110,
Qb 112 0 8,
Qb 113 23 112,
Qb 114 4 113,
⟨XD,XD,.store 1 (.t 114) (.t 111),[],(.lone [107,108,109,110,8,112,113])⟩]))))))
def F30075e(e1:Nat)(b0:aj)(pods:List au)(i:Int)(v:an)(n:Int)(su:aD):Option (Int×Int×Int×(List ag)×Int×ByteArray×(List aF)×(List cp)):=(((((if n<b0.ah.Node.cJ then(F83 v.Spec).bind fun t4=>(F119 b0.ah.Node.aJ su).bind fun t5=>(F118 t4 t5).bind fun t6=>XC t6 else XC XG)).bind fun o2=>(if o2=XH then(((ck (0≤v.Spec.ad.length∧v.Spec.ad.length≤4294967290)).bind fun u11=>F30075e_l8 v.Spec.ad 0 ([])).bind fun o8=>(KQ ((⟨0,0⟩:cp)) ((v.Spec.ad.length:Int)) ((v.Spec.ad.length:Int))).bind fun m12=>(KQ ((⟨0,0,XG,0⟩:aF)) ((XF.wrap (3*((v.Spec.ad.length:Int))))) ((XF.wrap (3*((v.Spec.ad.length:Int)))))).bind fun m13=>XC (((XF.wrap (b0.ah.b8+1)),0,0,o8,b0.ah.b8,(⟨#[]⟩:ByteArray),m13,m12)))else XC ((b0.ah.b8,3,b0.ah.cl,[],0,(⟨#[79,117,116,79,102,82,101,115,111,117,114,99,101,115]⟩:ByteArray),[],[]))))).bind fun o1=>XC ((o1.1,o1.2.1,o1.2.2.1,o1.2.2.2.1,o1.2.2.2.2.1,o1.2.2.2.2.2.1,o1.2.2.2.2.2.2.1,o1.2.2.2.2.2.2.2)))
theorem F30075e_ok{e1 b0 pods i v n su r}(h:F30075e e1 b0 pods i v n su=XC r):sK XI 128 2 wB [] (sM 128 2 (fun s=>s=⟨[(0,Pz 0),(1,oI i),(8,Pz 2)],[xb (lz b0 (ow 1 e1 pods) (dI r.1)),ai e1 pods,xb [dS v.ak.bY,dS v.ak.bE,dS v.ak.aV,dI v.ak.jH,dI v.ak.cE,dI v.ak.bA,dI v.ak.cF,dB v.ak.bP,dI v.ak.bz,dM (v.ak.cS.map cR),dM (v.ak.cZ.map cP),dM (v.ak.bB.map eS),dM (v.ak.b9.map bU),dS v.Spec.Node,dI v.Spec.dF,dI v.Spec.ca,dI v.Spec.jB,dM (v.Spec.ad.map bo),dM (v.Spec.dg.map bV),dM (v.Spec.eH.map dv),dM (v.Spec.fv.map dY),dM (v.Spec.ij.map cV),dM (v.Spec.dz.map cU),dI r.2.1,dB XG,dI 0,dI b0.ah.cl,dI r.2.2.1,ow 3 0 r.2.2.2.1,dI r.2.2.2.2.1,dS ((⟨#[]⟩:ByteArray)),dS r.2.2.2.2.2.1,ow 4 0 r.2.2.2.2.2.2.1,ow 5 0 r.2.2.2.2.2.2.2,dB XG,dI 0],aE 0 r.2.2.2.1,aU 0 r.2.2.2.2.2.2.1,bQ 0 r.2.2.2.2.2.2.2]⟩) (xQ 128 2 (fun _ _=>False) (fun _=>False)))
 ⟨[(0,Pz 0),(1,oI i),(5,Pz 2),(6,oI n),(7,Pz 3),(8,Pz 4)],[xb (aA b0 (ow 1 e1 pods)),ai e1 pods,xb (qw v (dI 0) (dB XG) (dI 0) (dI b0.ah.cl) (dI 0) dN (dI 0) (dS ((⟨#[]⟩:ByteArray))) (dS ((⟨#[]⟩:ByteArray)))),xb (b6 su),xb [dS v.ak.bY,dS v.ak.bE,dS v.ak.aV,dI v.ak.jH,dI v.ak.cE,dI v.ak.bA,dI v.ak.cF,dB v.ak.bP,dI v.ak.bz,dM (v.ak.cS.map cR),dM (v.ak.cZ.map cP),dM (v.ak.bB.map eS),dM (v.ak.b9.map bU),dS v.Spec.Node,dI v.Spec.dF,dI v.Spec.ca,dI v.Spec.jB,dM (v.Spec.ad.map bo),dM (v.Spec.dg.map bV),dM (v.Spec.eH.map dv),dM (v.Spec.fv.map dY),dM (v.Spec.ij.map cV),dM (v.Spec.dz.map cU),dI 0,dB XG,dI 0,dI b0.ah.cl,dI 0,dN,dI 0,dS ((⟨#[]⟩:ByteArray)),dS ((⟨#[]⟩:ByteArray)),dN,dN,dB XG,dI 0]]⟩:=by
 rw[F30075e]at h
 unfold wB
 refine ww ?_
 obtain⟨o1,ho,h⟩:=bi h
 refine bD (fun s=>s=⟨[(0,Pz 0),(1,oI i),(8,Pz 2)],[xb (lz b0 (ow 1 e1 pods) (dI o1.1)),ai e1 pods,xb [dS v.ak.bY,dS v.ak.bE,dS v.ak.aV,dI v.ak.jH,dI v.ak.cE,dI v.ak.bA,dI v.ak.cF,dB v.ak.bP,dI v.ak.bz,dM (v.ak.cS.map cR),dM (v.ak.cZ.map cP),dM (v.ak.bB.map eS),dM (v.ak.b9.map bU),dS v.Spec.Node,dI v.Spec.dF,dI v.Spec.ca,dI v.Spec.jB,dM (v.Spec.ad.map bo),dM (v.Spec.dg.map bV),dM (v.Spec.eH.map dv),dM (v.Spec.fv.map dY),dM (v.Spec.ij.map cV),dM (v.Spec.dz.map cU),dI o1.2.1,dB XG,dI 0,dI b0.ah.cl,dI o1.2.2.1,ow 3 0 o1.2.2.2.1,dI o1.2.2.2.2.1,dS ((⟨#[]⟩:ByteArray)),dS o1.2.2.2.2.2.1,ow 4 0 o1.2.2.2.2.2.2.1,ow 5 0 o1.2.2.2.2.2.2.2,dB XG,dI 0],aE 0 o1.2.2.2.1,aU 0 o1.2.2.2.2.2.2.1,bQ 0 o1.2.2.2.2.2.2.2]⟩) ?_ ?_
 ·have h:=ho
  refine ww ?_
  obtain⟨o2,ho,h⟩:=bi h
  refine bD (fun s=>s=⟨[(0,Pz 0),(1,oI i),(5,Pz 2),(8,Pz 3),(46,oB o2)],[xb (aA b0 (ow 1 e1 pods)),ai e1 pods,xb (qw v (dI 0) (dB XG) (dI 0) (dI b0.ah.cl) (dI 0) dN (dI 0) (dS ((⟨#[]⟩:ByteArray))) (dS ((⟨#[]⟩:ByteArray)))),xb [dS v.ak.bY,dS v.ak.bE,dS v.ak.aV,dI v.ak.jH,dI v.ak.cE,dI v.ak.bA,dI v.ak.cF,dB v.ak.bP,dI v.ak.bz,dM (v.ak.cS.map cR),dM (v.ak.cZ.map cP),dM (v.ak.bB.map eS),dM (v.ak.b9.map bU),dS v.Spec.Node,dI v.Spec.dF,dI v.Spec.ca,dI v.Spec.jB,dM (v.Spec.ad.map bo),dM (v.Spec.dg.map bV),dM (v.Spec.eH.map dv),dM (v.Spec.fv.map dY),dM (v.Spec.ij.map cV),dM (v.Spec.dz.map cU),dI 0,dB XG,dI 0,dI b0.ah.cl,dI 0,dN,dI 0,dS ((⟨#[]⟩:ByteArray)),dS ((⟨#[]⟩:ByteArray)),dN,dN,dB XG,dI 0]]⟩) ?_ ?_
  ·have h:=ho
   refine ww ?_
   refine ib h (fun g3 h=>ww ?_) (fun g3 h=>?_)
   ·obtain⟨t4,ht4,h⟩:=bi h
    refine cN [] (F83_ok ht4) trivial (ww ?_)
    obtain⟨t5,ht5,h⟩:=bi h
    refine cN [] (F119_ok ht5) trivial (ww ?_)
    obtain⟨t6,ht6,h⟩:=bi h
    refine cN [] (F118_ok ht6) trivial (ww ?_)
    cases h
    exact eM [XC 0,XC 1,XC 2,XC 4] rfl
   ·refine ww ?_
    cases h
    exact eM [XC 0,XC 1,XC 2,XC 4] rfl
  ·rintro _ rfl
   refine ww ?_
   refine ct h (fun c7 h=>ww ?_) (fun c7 h=>?_)
   ·obtain⟨o8,ho,h⟩:=bi h
    refine bD (fun s=>s=⟨[(0,Pz 0),(1,oI i),(5,Pz 2),(8,Pz 3)],[xb (lz b0 (ow 1 e1 pods) (dI ((XF.wrap (b0.ah.b8+1))))),ai e1 pods,xb (qw v (dI 0) (dB XG) (dI 0) (dI b0.ah.cl) (dI 0) dN (dI 0) (dS ((⟨#[]⟩:ByteArray))) (dS ((⟨#[]⟩:ByteArray)))),xb [dS v.ak.bY,dS v.ak.bE,dS v.ak.aV,dI v.ak.jH,dI v.ak.cE,dI v.ak.bA,dI v.ak.cF,dB v.ak.bP,dI v.ak.bz,dM (v.ak.cS.map cR),dM (v.ak.cZ.map cP),dM (v.ak.bB.map eS),dM (v.ak.b9.map bU),dS v.Spec.Node,dI v.Spec.dF,dI v.Spec.ca,dI v.Spec.jB,dM (v.Spec.ad.map bo),dM (v.Spec.dg.map bV),dM (v.Spec.eH.map dv),dM (v.Spec.fv.map dY),dM (v.Spec.ij.map cV),dM (v.Spec.dz.map cU),dI 0,dB XG,dI 0,dI b0.ah.cl,dI 0,ow 4 0 o8,dI b0.ah.b8,dS ((⟨#[]⟩:ByteArray)),dS ((⟨#[]⟩:ByteArray)),dN,dN,dB XG,dI 0],aE 0 o8]⟩) ?_ ?_
    ·have h:=ho
     obtain⟨_,hk,h⟩:=bi h
     have hk:=cr hk
     refine ww ?_
     refine bL (fun j s=>∃(o8_1:Nat) (o8_0:List ag),(o8_1≤v.Spec.ad.length∧j=v.Spec.ad.length-o8_1)∧s=⟨[(0,Pz 0),(1,oI i),(5,Pz 2),(8,Pz 3),(69,oM (v.Spec.ad.map bo)),(70,oI (v.Spec.ad.length:Int)),(71,oI (o8_1:Int))],[xb (lz b0 (ow 1 e1 pods) (dI ((XF.wrap (b0.ah.b8+1))))),ai e1 pods,xb (qw v (dI 0) (dB XG) (dI 0) (dI b0.ah.cl) (dI 0) dN (dI 0) (dS ((⟨#[]⟩:ByteArray))) (dS ((⟨#[]⟩:ByteArray)))),xb [dS v.ak.bY,dS v.ak.bE,dS v.ak.aV,dI v.ak.jH,dI v.ak.cE,dI v.ak.bA,dI v.ak.cF,dB v.ak.bP,dI v.ak.bz,dM (v.ak.cS.map cR),dM (v.ak.cZ.map cP),dM (v.ak.bB.map eS),dM (v.ak.b9.map bU),dS v.Spec.Node,dI v.Spec.dF,dI v.Spec.ca,dI v.Spec.jB,dM (v.Spec.ad.map bo),dM (v.Spec.dg.map bV),dM (v.Spec.eH.map dv),dM (v.Spec.fv.map dY),dM (v.Spec.ij.map cV),dM (v.Spec.dz.map cU),dI 0,dB XG,dI 0,dI b0.ah.cl,dI 0,ow 4 0 o8_0,dI b0.ah.b8,dS ((⟨#[]⟩:ByteArray)),dS ((⟨#[]⟩:ByteArray)),dN,dN,dB XG,dI 0],aE 0 o8_0]⟩∧F30075e_l8 (v.Spec.ad.drop o8_1) o8_1 o8_0=XC o8) (v.Spec.ad.length-0) [XC 0,XC 1,XC 2,XC 3,XD] ⟨0,[],⟨hk.1,rfl⟩,rfl,h⟩ ?_
     rintro _ _ ⟨o8_1,o8_0,⟨hi,rfl⟩,rfl,h⟩
     refine ww ?_
     refine dq (fun c9=>?_) (fun c9=>?_)
     ·obtain⟨xo8,hxo8,hd⟩:=cW (show(o8_1:Int)<(v.Spec.ad.length:Int)from c9)
      rw[hd,F30075e_l8]at h
      refine ww ?_
      refine bI (enc:=bo) (xs:=v.Spec.ad) rfl rfl hxo8 rfl (ww ?_)
      refine tB (enc:=aC) (ys:=[(⟨xo8.aV,0,0,0,0,XG,XG⟩:ag)]) rfl rfl (ww ?_)
      obtain⟨a10,ha10,h⟩:=bi h
      refine tA (enc:=aC) (xs:=o8_0) rfl rfl rfl ha10 (ww ?_)
      rw[cL (by omega)]
      exact jo (v.Spec.ad.length-(o8_1+1)) i5 ⟨o8_1+1,a10,⟨by omega,rfl⟩,rfl,h⟩ (by omega)
     ·rw[cX (show¬((o8_1:Int)<(v.Spec.ad.length:Int))from c9),F30075e_l8]at h
      refine ww ?_
      cases h
      exact eM i5 rfl
    ·rintro _ rfl
     refine ww ?_
     obtain⟨m12,hm12,h⟩:=bi h
     refine OA (enc:=fm) (z:=(⟨0,0⟩:cp)) rfl rfl rfl hm12 (ww ?_)
     obtain⟨m13,hm13,h⟩:=bi h
     refine OA (enc:=cu) (z:=(⟨0,0,XG,0⟩:aF)) rfl rfl rfl hm13 (ww ?_)
     cases h
     exact eM [XC 0,XC 1,XC 3,XC 4,XC 6,XC 5] rfl
   ·refine ww ?_
    cases h
    exact eM [XC 0,XC 1,XC 3,XD,XD,XD] rfl
 ·rintro _ rfl
  refine ww ?_
  cases h
  exact eM i6 rfl
def DF:AC:=(.reg [Qa 64 5,
Qb 65 3 3,
Qd 66 65,
Qb 67 1 3,
Qd 68 67,
zl 69 (.call 42 [(.t 64),(.t 66),(.t 68)]) [] [3,65,3,67]])
def F10pu(e1:Nat)(b0:aj)(pods:List au)(v:aN):Option ((List aw)):=(F42 v.aP v.N ((⟨(⟨b0.ah.Node,b0.ah.cl,pods,b0.ah.aM,b0.ah.bW,b0.ah.bO,b0.ah.b8⟩:jn)⟩:gM))).bind fun t1=>XC t1
theorem F10pu_ok{e1 b0 pods v r}(h:F10pu e1 b0 pods v=XC r):sK XI 86 0 DF [] (sM 86 0 (fun s=>s=⟨[(3,Pz 0),(4,Pz 1),(5,Pz 2)],[xb (aZ v),xb gx,xb (BE b0 (ow 3 0 pods) (ow 4 0 r)),ai 0 pods,ba 0 r]⟩) (xQ 86 0 (fun _ _=>False) (fun _=>False)))
 ⟨[(3,Pz 0),(4,Pz 1),(5,Pz 2)],[xb (aZ v),xb gx,xb (aA b0 (ow 3 e1 pods)),ai e1 pods]⟩:=by
 rw[F10pu]at h
 unfold DF
 refine ww ?_
 obtain⟨t1,ht1,h⟩:=bi h
 refine cN [2,3] (F42_ok (e1:=e1) ht1) ⟨⟨(by first|rfl|(simp only[XK];rfl)),by simp[bw.live,C.live,hp]⟩,⟨⟨rfl,trivial⟩,trivial⟩⟩ ?_
 refine ww ?_
 cases h
 exact eM i5 rfl
end Go.Proofs.YtojbebejhgbfeaaGreat
