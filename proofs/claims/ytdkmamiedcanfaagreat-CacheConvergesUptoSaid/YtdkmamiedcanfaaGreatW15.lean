/- Each Go function as a function over typed data, and its walk. -/
import Derived.Test.YtdkmamiedcanfaaGreatW0
import Derived.Test.YtdkmamiedcanfaaGreatW3
import Derived.Test.YtdkmamiedcanfaaGreatW4
import Derived.Test.YtdkmamiedcanfaaGreatW7
import Derived.Test.YtdkmamiedcanfaaGreatW8
namespace Go.Proofs.YtdkmamiedcanfaaGreat
open Go Go.Fw Go.Shelf
set_option maxRecDepth 100000
set_option maxHeartbeats 4000000
set_option linter.unusedSimpArgs false
set_option linter.unusedVariables false
def F88_l12(x0:Ah):List ByteArray→Nat→Option ((Bool) ⊕ (Unit))
 |[],o12_0=>some (Sum.inr (()))
 |xo12::xs,o12_0=>(((F121 xo12).bind fun t15=>(if(nb t15)=true then some true else(if 0<(o12_0:Int)then(rdI x0.Aq ((IntKind.i64.wrap (((o12_0:Int))-1)))).bind fun y18=>some (nb (Op.bytesLess y18.toList xo12.toList))else some false))).bind fun o14=>(if o14=true then(some false).map Sum.inl else F88_l12 x0 xs (o12_0+1)))
def F88(x0:Ah):Option (Bool):=(F120 x0.Key).bind fun t1=>(if(nb t1)=true then some false else(((if x0.Op=3 then some true else some (decide (x0.Op=4)))).bind fun o3=>(if o3=true then some (decide ((x0.Aq.length:Int)=0))else(((if¬(x0.Op=1)then(if¬(x0.Op=2)then some true else(if(x0.Aq.length:Int)<1 then some true else some (decide (64<(x0.Aq.length:Int)))))else(if(x0.Aq.length:Int)<1 then some true else some (decide (64<(x0.Aq.length:Int)))))).bind fun o6=>(if o6=true then some false else(((ck (0≤x0.Aq.length∧x0.Aq.length≤4294967290)).bind fun u20=>F88_l12 x0 x0.Aq 0:Option ((Bool) ⊕ (Unit))).bind fun o12=>match o12 with|Sum.inl f=>some f|Sum.inr po12=>some true))))))
def a88:AFn:=⟨72,[(.tmp 2)],
 (.seq (.reg [Qg 1 0,
Qf 2 false])
 (.seq (.seq (.reg [Qb 4 0 1,
Qd 5 4,
Qk 6 120 5,
Qq 7 6])
 (.cond (.t 7)
 (.seq (.reg [Qf 2 false])
 .ret)
 .skip))
 (.seq (.seq (.sem (.reg [Qb 8 1 1,
Qd 9 8,
Qr 10 9 3,
Qa 11 10,
Qs 12 11 false 1 1,
Qt 13 11 false 12,
zg 14 11 false (.bin .eql (.t 13) (kI 4)),
zl 15 (.pick (.t 11) (kB true) (.t 14)) [] [1,8,1,12]]))
 (.cond (.t 15)
 (.seq (.reg [Qb 16 2 1,
Qd 17 16,
Qh 18 17,
Qr 19 18 0,
Qa 2 19])
 .ret)
 .skip))
 (.seq (.seq (.sem (.reg [Qb 20 1 1,
Qd 21 20,
sq 22 (.bin .neq (.t 21) (kI 1)),
Qa 23 22,
Qs 24 23 true 1 1,
Qt 25 23 true 24,
zg 26 23 true (.bin .neq (.t 25) (kI 2)),
Qi 27 23 26,
Qa 28 27,
Qs 29 28 false 2 1,
Qt 30 28 false 29,
zg 31 28 false (.len (.t 30)),
zg 32 28 false (.bin .lss (.t 31) (kI 1)),
Qj 33 28 32,
Qa 34 33,
Qs 35 34 false 2 1,
Qt 36 34 false 35,
zg 37 34 false (.len (.t 36)),
zg 38 34 false (.bin .gtr (.t 37) (kI 64)),
Qj 39 34 38]))
 (.cond (.t 39)
 (.seq (.reg [Qf 2 false])
 .ret)
 .skip))
 (.seq (.seq (.reg [Qe 3 0])
 (.sem (.block 0 (.loop (.seq (.seq (.reg [Qa 40 3,
Qb 41 2 1,
Qd 42 41,
Qh 43 42,
Qn 44 40 43])
 (.cond (.t 44)
 .skip
 (.exit 0)))
 (.seq (.block 1 (.seq (.sem (.regd [Qb 47 2 1,
sd 48 (.load none (.t 47)) [0],
Qa 49 3,
sd 50 (.indexA 1 (.t 48) (.t 49)) [0,1,2],
sd 51 (.load none (.t 50)) [0,1,2,3],
zl 52 (.call 121 [(.t 51)]) [0,1,2,3,4] [],
sd 53 (.not (.t 52)) [0,1,2,3,4,5],
sd 54 (.mv (.t 53)) [0,1,2,3,4,5,6],
⟨(some 55),(some (54,false)),.mv (.t 3),[0,1,2,3,4,5,6,7],(.new [])⟩,
⟨(some 56),(some (54,false)),.bin .gtr (.t 55) (kI 0),[0,1,2,3,4,5,6,7,8],(.new [])⟩,
⟨(some 57),(some (54,false)),.mv (.t 56),[0,1,2,3,4,5,6,7,8,9],(.new [])⟩,
⟨(some 58),(some (57,true)),.fieldA 2 (.t 1),[0,1,2,3,4,5,6,7,8,9,10],(.new [])⟩,
⟨(some 59),(some (57,true)),.load none (.t 58),[0,1,2,3,4,5,6,7,8,9,10,11],(.new [])⟩,
⟨(some 60),(some (57,true)),.mv (.t 3),[0,1,2,3,4,5,6,7,8,9,10],(.new [])⟩,
⟨(some 61),(some (57,true)),.bin .sub (.t 60) (kI 1),[0,1,2,3,4,5,6,7,8,9,10,13],(.new [])⟩,
⟨(some 62),(some (57,true)),.indexA 1 (.t 59) (.t 61),[0,1,2,3,4,5,6,7,8,9,10,11,12,13,14],(.new [])⟩,
⟨(some 63),(some (57,true)),.load none (.t 62),[0,1,2,3,4,5,6,7,8,9,10,11,12,13,14,15],(.new [])⟩,
⟨(some 64),(some (57,true)),.fieldA 2 (.t 1),[0,1,2,3,4,5,6,7,8,9,10],(.new [])⟩,
⟨(some 65),(some (57,true)),.load none (.t 64),[0,1,2,3,4,5,6,7,8,9,10,17],(.new [])⟩,
⟨(some 66),(some (57,true)),.mv (.t 3),[0,1,2,3,4,5,6,7,8,9,10],(.new [])⟩,
⟨(some 67),(some (57,true)),.indexA 1 (.t 65) (.t 66),[0,1,2,3,4,5,6,7,8,9,10,17,18,19],(.new [])⟩,
⟨(some 68),(some (57,true)),.load none (.t 67),[0,1,2,3,4,5,6,7,8,9,10,17,18,19,20],(.new [])⟩,
⟨(some 69),(some (57,true)),.bin .geq (.t 63) (.t 68),[0,1,2,3,4,5,6,7,8,9,10,11,12,13,14,15,16,17,18,19,20,21],(.new [])⟩,
⟨(some 70),(some (54,false)),.pick (.t 57) (.t 69) (kB false),[0,1,2,3,4,5,6,7,8,9,10,11,12,13,14,15,16,17,18,19,20,21,22],(.lone [])⟩,
zl 71 (.pick (.t 54) (kB true) (.t 70)) [0,1,2,3,4,5,6,7,8,9,10,11,12,13,14,15,16,17,18,19,20,21,22,23] []]))
 (.cond (.t 71)
 (.seq (.reg [Qf 2 false])
 .ret)
 .skip)))
 (.reg [Qa 45 3,
Qm 46 45 1,
Qa 3 46])))))))
 (.seq (.reg [Qf 2 true])
 .ret))))))⟩
theorem F88_ok{x0 r}(h:F88 x0=some r):An Tryz.prog 88 [.agg (By x0)] [] (AL [.c (dB r)]) []:=by
 rw[F88]at h
 refine zc a88 (by kernel_rfl) rfl (ww ?_)
 obtain⟨t1,ht1,h⟩:=bi h
 refine cN [] (F120_ok ht1) trivial (ww ?_)
 refine AE h (fun c2 h=>ww ?_) (fun c2 h=>ww ?_)
 ·cases h
  exact eF []
 obtain⟨o3,ho,h⟩:=bi h
 refine AB (fun s=>s=⟨[(1,Pz 0),(15,oc (dB o3))],[xb (By x0)]⟩) ?_ ?_
 ·have h:=ho
  clear ho
  refine ww ?_
  refine Af h (fun g4 h=>ww ?_) (fun g4 h=>ww ?_)
  ·cases h
   exact eM [some 0] rfl
  cases h
  exact eM [some 0] rfl
 rintro _ rfl
 clear ho
 refine ww ?_
 refine AE h (fun c5 h=>ww ?_) (fun c5 h=>ww ?_)
 ·cases h
  exact eF []
 obtain⟨o6,ho,h⟩:=bi h
 refine AB (fun s=>s=⟨[(1,Pz 0),(39,oc (dB o6))],[xb (By x0)]⟩) ?_ ?_
 ·have h:=ho
  clear ho
  refine ww ?_
  refine Af h (fun g7 h=>ww ?_) (fun g7 h=>ww ?_)
  ·refine Af h (fun g8 h=>ww ?_) (fun g8 h=>ww ?_)
   ·cases h
    exact eM [some 0] rfl
   refine Af h (fun g9 h=>ww ?_) (fun g9 h=>ww ?_)
   ·cases h
    exact eM [some 0] rfl
   cases h
   exact eM [some 0] rfl
  refine Af h (fun g10 h=>ww ?_) (fun g10 h=>ww ?_)
  ·cases h
   exact eM [some 0] rfl
  cases h
  exact eM [some 0] rfl
 rintro _ rfl
 clear ho
 refine ww ?_
 refine AE h (fun c11 h=>ww ?_) (fun c11 h=>ww ?_)
 ·cases h
  exact eF []
 obtain⟨o12,ho,h⟩:=bi h
 refine AB (fun s=>∃po12,o12=Sum.inr po12∧s=⟨[],[]⟩) ?_ ?_
 ·have h0o12:=h
  have h:=ho
  clear ho
  obtain⟨_,hk,h⟩:=bi h
  have hk:=AS hk
  refine ww ?_
  refine bL (fun j s=>∃(o12_0:Nat),(o12_0≤x0.Aq.length∧j=x0.Aq.length-o12_0)∧s=⟨[(1,Pz 0),(3,oc (dI ((o12_0:Int))))],[xb (By x0)]⟩∧F88_l12 x0 (x0.Aq.drop o12_0) o12_0=some o12) (x0.Aq.length-0) [some 0] ⟨0,⟨hk.1,rfl⟩,rfl,h⟩ ?_
  rintro _ _ ⟨o12_0,⟨hi,rfl⟩,rfl,h⟩
  refine ww ?_
  refine Bg (fun c13=>?_) (fun c13=>?_)
  ·obtain⟨xo12,hxo12,hd⟩:=A5 (show(o12_0:Int)<(x0.Aq.length:Int)from c13)
   rw[hd,F88_l12]at h
   refine ww ?_
   obtain⟨o14,ho,h⟩:=bi h
   refine AB (fun s=>s=⟨[(1,Pz 0),(3,oc (dI ((o12_0:Int)))),(71,oc (dB o14))],[xb (By x0)]⟩) ?_ ?_
   ·have h:=ho
    clear ho
    refine ww ?_
    refine Az (enc:=eS) (xs:=x0.Aq) rfl rfl hxo12 rfl (ww ?_)
    obtain⟨t15,ht15,h⟩:=bi h
    refine cN [] (F121_ok ht15) trivial (ww ?_)
    refine Cm h (fun g16 h=>ww ?_) (fun g16 h=>ww ?_)
    ·cases h
     exact eM [some 0] rfl
    refine B4 h (fun g17 h=>ww ?_) (fun g17 h=>ww ?_)
    ·obtain⟨y18,hy18,h⟩:=bi h
     refine Az (enc:=eS) (xs:=x0.Aq) rfl rfl hy18 rfl (ww ?_)
     refine Az (enc:=eS) (xs:=x0.Aq) rfl rfl hxo12 rfl (ww ?_)
     cases h
     exact eM [some 0] rfl
    cases h
    exact eM [some 0] rfl
   rintro _ rfl
   clear ho
   refine ww ?_
   refine AE h (fun c19 h=>ww ?_) (fun c19 h=>ww ?_)
   ·obtain⟨fh0o12,hfh0o12,rfl⟩:=Option.map_eq_some_iff.1 h
    have h:=hfh0o12.trans h0o12
    cases h
    exact eF []
   rw[AW (by omega)]
   exact eL' (x0.Aq.length-(o12_0+1)) [some 0] ⟨o12_0+1,⟨by omega,rfl⟩,rfl,h⟩ (by omega)
  rw[A6 (show¬((o12_0:Int)<(x0.Aq.length:Int))from c13),F88_l12]at h
  refine ww ?_
  cases h
  exact eM [] ⟨_,rfl,rfl⟩
 rintro _ ⟨po12,rfl,rfl⟩
 clear ho
 dsimp only at h
 refine ww ?_
 cases h
 exact eF []
def F48_l2:List Ah→Nat→Option ((Bool) ⊕ (Unit))
 |[],o2_0=>some (Sum.inr (()))
 |xo2::xs,o2_0=>(F88 xo2).bind fun t4=>(if(nb t4)=true then(some false).map Sum.inl else F48_l2 xs (o2_0+1))
def F48(x0:(List Ah)):Option (Bool):=(if 16<(x0.length:Int)then some false else(((ck (0≤x0.length∧x0.length≤4294967290)).bind fun u6=>F48_l2 x0 0:Option ((Bool) ⊕ (Unit))).bind fun o2=>match o2 with|Sum.inl f=>some f|Sum.inr po2=>some true))
def a48:AFn:=⟨19,[(.tmp 2)],
 (.seq (.reg [Qf 2 false])
 (.seq (.seq (.reg [Qa 4 0,
Qh 5 4,
sq 6 (.bin .gtr (.t 5) (kI 16))])
 (.cond (.t 6)
 (.seq (.reg [Qf 2 false])
 .ret)
 .skip))
 (.seq (.seq (.reg [Qe 3 0])
 (.sem (.block 0 (.loop (.seq (.seq (.reg [Qa 7 3,
Qa 8 0,
Qh 9 8,
Qn 10 7 9])
 (.cond (.t 10)
 .skip
 (.exit 0)))
 (.seq (.block 1 (.seq (.reg [Qa 13 0,
Qa 14 3,
Qp 15 3 13 14,
Qc 16 3 15,
Qk 17 88 16,
Qq 18 17])
 (.cond (.t 18)
 (.seq (.reg [Qf 2 false])
 .ret)
 .skip)))
 (.reg [Qa 11 3,
Qm 12 11 1,
Qa 3 12])))))))
 (.seq (.reg [Qf 2 true])
 .ret))))⟩
theorem F48_ok{x0 r}(h:F48 x0=some r):An Tryz.prog 48 [.c (dM (x0.map Al))] [] (AL [.c (dB r)]) []:=by
 rw[F48]at h
 refine zc a48 (by kernel_rfl) rfl (ww ?_)
 refine AH h (fun c1 h=>ww ?_) (fun c1 h=>ww ?_)
 ·cases h
  exact eF []
 obtain⟨o2,ho,h⟩:=bi h
 refine AB (fun s=>∃po2,o2=Sum.inr po2∧s=⟨[],[]⟩) ?_ ?_
 ·have h0o2:=h
  have h:=ho
  clear ho
  obtain⟨_,hk,h⟩:=bi h
  have hk:=AS hk
  refine ww ?_
  refine bL (fun j s=>∃(o2_0:Nat),(o2_0≤x0.length∧j=x0.length-o2_0)∧s=⟨[(0,oc (dM (x0.map Al))),(3,oc (dI ((o2_0:Int))))],[]⟩∧F48_l2 (x0.drop o2_0) o2_0=some o2) (x0.length-0) [] ⟨0,⟨hk.1,rfl⟩,rfl,h⟩ ?_
  rintro _ _ ⟨o2_0,⟨hi,rfl⟩,rfl,h⟩
  refine ww ?_
  refine Bg (fun c3=>?_) (fun c3=>?_)
  ·obtain⟨xo2,hxo2,hd⟩:=A5 (show(o2_0:Int)<(x0.length:Int)from c3)
   rw[hd,F48_l2]at h
   refine ww ?_
   refine Az (enc:=Al) (xs:=x0) rfl rfl hxo2 rfl (ww ?_)
   obtain⟨t4,ht4,h⟩:=bi h
   refine cN [] (F88_ok ht4) trivial (ww ?_)
   refine AE h (fun c5 h=>ww ?_) (fun c5 h=>ww ?_)
   ·obtain⟨fh0o2,hfh0o2,rfl⟩:=Option.map_eq_some_iff.1 h
    have h:=hfh0o2.trans h0o2
    cases h
    exact eF []
   rw[AW (by omega)]
   exact eL' (x0.length-(o2_0+1)) [] ⟨o2_0+1,⟨by omega,rfl⟩,rfl,h⟩ (by omega)
  rw[A6 (show¬((o2_0:Int)<(x0.length:Int))from c3),F48_l2]at h
  refine ww ?_
  cases h
  exact eM [] ⟨_,rfl,rfl⟩
 rintro _ ⟨po2,rfl,rfl⟩
 clear ho
 dsimp only at h
 refine ww ?_
 cases h
 exact eF []
def F50(x0:Ag)(x1:Filter)(x2:Int):Option (Int):=(F48 x1.Selector).bind fun t1=>(if(nb t1)=true then some 1 else(((if x2<0 then some true else some (decide (x0.Rev<x2)))).bind fun o3=>(if o3=true then some 5 else(if x2<x0.As then some 10 else some 0))))
def a50:AFn:=⟨26,[(.tmp 6)],
 (.seq (.reg [Qg 3 0,
Qg 4 1,
Qe 6 0])
 (.seq (.block 0 (.seq (.reg [Qb 8 2 4,
Qd 9 8,
Qk 10 48 9,
Qq 11 10,
Qa 7 11])
 (.cond (.t 7)
 (.seq (.reg [Qe 6 1])
 .ret)
 (.seq (.sem (.reg [Qa 13 2,
sq 14 (.bin .lss (.t 13) (kI 0)),
Qa 15 14,
Qv 16 15 false 2,
Qs 17 15 false 0 3,
Qt 18 15 false 17,
zg 19 15 false (.bin .gtr (.t 16) (.t 18)),
Qj 20 15 19,
Qa 12 20]))
 (.cond (.t 12)
 (.seq (.reg [Qe 6 5])
 .ret)
 (.seq (.reg [Qa 22 2,
Qb 23 1 3,
Qd 24 23,
Qn 25 22 24,
Qa 21 25])
 (.cond (.t 21)
 (.seq (.reg [Qe 6 10])
 .ret)
 .skip)))))))
 (.seq (.reg [Qe 6 0])
 .ret)))⟩
theorem F50_ok{x0 x1 x2 r}(h:F50 x0 x1 x2=some r):An Tryz.prog 50 [.agg (AO x0),.agg (Bj x1),.c (dI x2)] [] (AL [.c (dI r)]) []:=by
 rw[F50]at h
 refine zc a50 (by kernel_rfl) rfl (ww ?_)
 obtain⟨t1,ht1,h⟩:=bi h
 refine cN [] (F48_ok ht1) trivial (ww ?_)
 refine AE h (fun c2 h=>ww ?_) (fun c2 h=>ww ?_)
 ·cases h
  exact eF []
 obtain⟨o3,ho,h⟩:=bi h
 refine AB (fun s=>s=⟨[(2,oc (dI x2)),(3,Pz 0),(12,oc (dB o3))],[xb (AO x0)]⟩) ?_ ?_
 ·have h:=ho
  clear ho
  refine ww ?_
  refine Af h (fun g4 h=>ww ?_) (fun g4 h=>ww ?_)
  ·cases h
   exact eM [some 0] rfl
  cases h
  exact eM [some 0] rfl
 rintro _ rfl
 clear ho
 refine ww ?_
 refine AE h (fun c5 h=>ww ?_) (fun c5 h=>ww ?_)
 ·cases h
  exact eF []
 refine AH h (fun c6 h=>ww ?_) (fun c6 h=>ww ?_)
 ·cases h
  exact eF []
 cases h
 exact eF []
def F51_l1(x1:Filter):List Object→Nat→(List Object)→Option ((List Object))
 |[],o1_1,o1_0=>some o1_0
 |xo1::xs,o1_1,o1_0=>(((F28 x1 xo1).bind fun t4=>(if t4=true then(apI o1_0 ([xo1])).bind fun a6=>some a6 else some o1_0)).bind fun o3=>F51_l1 x1 xs (o1_1+1) o3)
def F51(x0:(List Object))(x1:Filter):Option ((List Object)):=(((ck (0≤x0.length∧x0.length≤4294967290)).bind fun u7=>F51_l1 x1 x0 0 ([])).bind fun o1=>some o1)
def a51:AFn:=⟨27,[(.tmp 4)],
 (.seq (.reg [Qg 3 1,
sq 4 (.mv kN)])
 (.seq (.reg [sq 5 (.mv kN)])
 (.seq (.seq (.reg [Qe 6 0])
 (.sem (.block 0 (.loop (.seq (.seq (.reg [Qa 7 6,
Qa 8 0,
Qh 9 8,
Qn 10 7 9])
 (.cond (.t 10)
 .skip
 (.exit 0)))
 (.seq (.sem (.block 1 (.seq (.regd [Qc 13 3 3,
Qa 14 0,
Qa 15 6,
sd 16 (.indexA 23 (.t 14) (.t 15)) [1,2],
sd 17 (.load (some 23) (.t 16)) [1,2,3],
zl 18 (.call 28 [(.t 13),(.t 17)]) [0,1,2,3,4] []])
 (.cond (.t 18)
 (.reg [Qa 19 5,
Qa 20 0,
Qa 21 6,
Qp 22 23 20 21,
Qc 23 23 22,
sq 24 (.bslice 23 [(.t 23)]),
sq 25 (.app 23 352 (.t 19) (.t 24)),
Qa 5 25])
 .skip))))
 (.reg [Qa 11 6,
Qm 12 11 1,
Qa 6 12])))))))
 (.seq (.reg [Qa 26 5,
Qa 4 26])
 .ret))))⟩
theorem F51_ok{x0 x1 r}(h:F51 x0 x1=some r):An Tryz.prog 51 [.c (dM (x0.map Ad)),.agg (Bj x1)] [] (AL [.c (.own 0 0 0 (r.length) none)]) [some (.arr 0 23 (r.map Ad))]:=by
 rw[F51]at h
 refine zc a51 (by kernel_rfl) rfl (ww ?_)
 obtain⟨o1,ho,h⟩:=bi h
 refine AB (fun s=>s=⟨[(5,oc (.own 0 0 0 (o1.length) none))],[some (.arr 0 23 (o1.map Ad))]⟩) ?_ ?_
 ·have h:=ho
  clear ho
  obtain⟨_,hk,h⟩:=bi h
  have hk:=AS hk
  refine ww ?_
  refine bL (fun j s=>∃(o1_1:Nat) (o1_0:List Object),(o1_1≤x0.length∧j=x0.length-o1_1)∧s=⟨[(0,oc (dM (x0.map Ad))),(3,Pz 0),(5,oc (.own 1 0 0 (o1_0.length) none)),(6,oc (dI ((o1_1:Int))))],[xb (Bj x1),some (.arr 0 23 (o1_0.map Ad))]⟩∧F51_l1 x1 (x0.drop o1_1) o1_1 o1_0=some o1) (x0.length-0) [some 0,none] ⟨0,[],⟨hk.1,rfl⟩,rfl,h⟩ ?_
  rintro _ _ ⟨o1_1,o1_0,⟨hi,rfl⟩,rfl,h⟩
  refine ww ?_
  refine Bg (fun c2=>?_) (fun c2=>?_)
  ·obtain⟨xo1,hxo1,hd⟩:=A5 (show(o1_1:Int)<(x0.length:Int)from c2)
   rw[hd,F51_l1]at h
   refine ww ?_
   obtain⟨o3,ho,h⟩:=bi h
   refine AB (fun s=>s=⟨[(0,oc (dM (x0.map Ad))),(3,Pz 0),(5,oc (.own 1 0 0 (o3.length) none)),(6,oc (dI ((o1_1:Int))))],[xb (Bj x1),some (.arr 0 23 (o3.map Ad))]⟩) ?_ ?_
   ·have h:=ho
    clear ho
    refine ww ?_
    refine Az (enc:=Ad) (xs:=x0) rfl rfl hxo1 rfl (ww ?_)
    obtain⟨t4,ht4,h⟩:=bi h
    refine cN [] (F28_ok ht4) trivial (ww ?_)
    refine AE h (fun c5 h=>ww ?_) (fun c5 h=>ww ?_)
    ·refine Az (enc:=Ad) (xs:=x0) rfl rfl hxo1 rfl (ww ?_)
     refine BE (enc:=Ad) (ys:=[xo1]) rfl rfl (by simp[A1.cells]) (by first|rfl|(simp only[List.drop_zero,Aw];rfl)|(simp only[lit,List.map_cons,List.map_nil,List.drop_zero,Aw,EE.down];done)|(simp only[lit,List.map_cons,List.map_nil,List.drop_zero,Aw,EE.down];rfl)) (ww ?_)
     obtain⟨a6,ha6,h⟩:=bi h
     refine D6 (enc:=Ad) (xs:=o1_0) rfl rfl (by first|rfl|simp only[List.length_set]|exact(AN (AX (by assumption))).symm) rfl (Co (enc:=Ad) (by first|rfl|simp only[List.length_set]|exact(AN (AX (by assumption))).symm) rfl) ha6 (ww ?_)
     cases h
     exact eM [some 0,some 1] rfl
    cases h
    exact eM [some 0,some 1] rfl
   rintro _ rfl
   clear ho
   refine ww ?_
   rw[AW (by omega)]
   exact eL' (x0.length-(o1_1+1)) [some 0,some 1] ⟨o1_1+1,o3,⟨by omega,rfl⟩,rfl,h⟩ (by omega)
  rw[A6 (show¬((o1_1:Int)<(x0.length:Int))from c2),F51_l1]at h
  refine ww ?_
  cases h
  exact eM [some 1] rfl
 rintro _ rfl
 clear ho
 refine ww ?_
 cases h
 exact eF [some 0]
def F26(x0:Ag)(x1:Filter):Option ((List Object)):=(F51 x0.Aa x1).bind fun t1=>some t1
def a26:AFn:=⟨9,[(.tmp 4)],
 (.seq (.reg [Qg 2 0,
Qg 3 1,
sq 4 (.mv kN)])
 (.seq (.reg [Qb 5 4 2,
Qd 6 5,
Qc 7 3 3,
Ql 8 51 6 7,
Qa 4 8])
 .ret))⟩
theorem F26_ok{x0 x1 r}(h:F26 x0 x1=some r):An Tryz.prog 26 [.agg (AO x0),.agg (Bj x1)] [] (AL [.c (.own 0 0 0 (r.length) none)]) [some (.arr 0 23 (r.map Ad))]:=by
 rw[F26]at h
 refine zc a26 (by kernel_rfl) rfl (ww ?_)
 obtain⟨t1,ht1,h⟩:=bi h
 refine cN [] (F51_ok ht1) trivial (ww ?_)
 cases h
 exact eF [some 2]
def F25_l1(x0:(List Object))(x1:(List Object)):Nat→Int→Option ((Bool) ⊕ (Unit))
 |0,_=>none
 |k+1,o1_0=>(((if o1_0<(x0.length:Int)then some (decide (o1_0<(x1.length:Int)))else some false)).bind fun o2=>(if o2=true then(rdI x0 o1_0).bind fun y5=>(rdI x1 o1_0).bind fun y6=>(F16 y5 y6).bind fun t7=>(if(nb t7)=true then(some false).map Sum.inl else F25_l1 x0 x1 k ((IntKind.i64.wrap (o1_0+1))))else some (Sum.inr (()))))
def F25(x0:(List Object))(x1:(List Object)):Option (Bool):=((F25_l1 x0 x1 1099511627776 0:Option ((Bool) ⊕ (Unit))).bind fun o1=>match o1 with|Sum.inl f=>some f|Sum.inr po1=>some (decide ((x0.length:Int)=(x1.length:Int))))
def a25:AFn:=⟨33,[(.tmp 4)],
 (.seq (.reg [Qf 4 false])
 (.seq (.seq (.reg [Qe 5 0])
 (.sem (.block 0 (.loop (.seq (.seq (.sem (.reg [Qa 6 5,
Qa 7 0,
Qh 8 7,
Qn 9 6 8,
Qa 10 9,
Qv 11 10 true 5,
Qv 12 10 true 1,
zg 13 10 true (.len (.t 12)),
zg 14 10 true (.bin .lss (.t 11) (.t 13)),
zl 15 (.pick (.t 10) (.t 14) (kB false)) [] [7,12]]))
 (.cond (.t 15)
 .skip
 (.exit 0)))
 (.seq (.block 1 (.seq (.regd [Qa 18 0,
Qa 19 5,
sd 20 (.indexA 23 (.t 18) (.t 19)) [0,1],
sd 21 (.load (some 23) (.t 20)) [0,1,2],
Qa 22 1,
Qa 23 5,
sd 24 (.indexA 23 (.t 22) (.t 23)) [4,5],
sd 25 (.load (some 23) (.t 24)) [4,5,6],
zl 26 (.call 16 [(.t 21),(.t 25)]) [0,1,2,3,4,5,6,7] [],
sd 27 (.not (.t 26)) [0,1,2,3,4,5,6,7,8]])
 (.cond (.t 27)
 (.seq (.reg [Qf 4 false])
 .ret)
 .skip)))
 (.reg [Qa 16 5,
Qm 17 16 1,
Qa 5 17])))))))
 (.seq (.reg [Qa 28 0,
Qh 29 28,
Qa 30 1,
Qh 31 30,
sq 32 (.bin .eql (.t 29) (.t 31)),
Qa 4 32])
 .ret)))⟩
theorem F25_ok{x0 x1 r}(h:F25 x0 x1=some r):An Tryz.prog 25 [.c (dM (x0.map Ad)),.c (dM (x1.map Ad))] [] (AL [.c (dB r)]) []:=by
 rw[F25]at h
 refine zc a25 (by kernel_rfl) rfl (ww ?_)
 obtain⟨o1,ho,h⟩:=bi h
 refine AB (fun s=>∃po1,o1=Sum.inr po1∧s=⟨[(0,oc (dM (x0.map Ad))),(1,oc (dM (x1.map Ad)))],[]⟩) ?_ ?_
 ·have h0o1:=h
  have h:=ho
  clear ho
  refine ww ?_
  refine bL (fun j s=>∃(o1_0:Int),s=⟨[(0,oc (dM (x0.map Ad))),(1,oc (dM (x1.map Ad))),(5,oc (dI o1_0))],[]⟩∧F25_l1 x0 x1 j o1_0=some o1) 1099511627776 [] ⟨0,rfl,h⟩ ?_
  rintro j _ ⟨o1_0,rfl,h⟩
  cases j with
  |zero=>cases(show(none:Option _)=some _ from h)
  |succ j=>
   rw[F25_l1]at h
   refine ww ?_
   obtain⟨o2,ho,h⟩:=bi h
   refine AB (fun s=>s=⟨[(0,oc (dM (x0.map Ad))),(1,oc (dM (x1.map Ad))),(5,oc (dI o1_0)),(15,oc (dB o2))],[]⟩) ?_ ?_
   ·have h:=ho
    clear ho
    refine ww ?_
    refine Af h (fun g3 h=>ww ?_) (fun g3 h=>?_)
    ·cases h
     exact eM [] rfl
    ·refine ww ?_
     cases h
     exact eM [] rfl
   ·rintro _ rfl
    clear ho
    refine ww ?_
    refine AE h (fun c4 h=>ww ?_) (fun c4 h=>?_)
    ·obtain⟨y5,hy5,h⟩:=bi h
     refine Az (enc:=Ad) (xs:=x0) rfl rfl hy5 rfl (ww ?_)
     obtain⟨y6,hy6,h⟩:=bi h
     refine Az (enc:=Ad) (xs:=x1) rfl rfl hy6 rfl (ww ?_)
     obtain⟨t7,ht7,h⟩:=bi h
     refine cN [] (F16_ok ht7) trivial (ww ?_)
     refine AE h (fun c8 h=>ww ?_) (fun c8 h=>?_)
     ·obtain⟨fh0o1,hfh0o1,rfl⟩:=Option.map_eq_some_iff.1 h
      have h:=hfh0o1.trans h0o1
      cases h
      exact eF []
     ·refine ww ?_
      exact eL' j [] ⟨(IntKind.i64.wrap (o1_0+1)),rfl,h⟩ (Nat.lt_succ_self _)
    ·refine ww ?_
     cases h
     exact eM [] ⟨_,rfl,rfl⟩
 rintro _ ⟨po1,rfl,rfl⟩
 clear ho
 dsimp only at h
 refine ww ?_
 cases h
 exact eF []
end Go.Proofs.YtdkmamiedcanfaaGreat
