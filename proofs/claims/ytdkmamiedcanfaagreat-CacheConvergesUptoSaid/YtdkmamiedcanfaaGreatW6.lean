/- Each Go function as a function over typed data, and its walk. -/
import Derived.Test.YtdkmamiedcanfaaGreatW0
import Derived.Test.YtdkmamiedcanfaaGreatW1
import Derived.Test.YtdkmamiedcanfaaGreatW2
import Derived.Test.YtdkmamiedcanfaaGreatW3
import Derived.Test.YtdkmamiedcanfaaGreatW4
namespace Go.Proofs.YtdkmamiedcanfaaGreat
open Go Go.Fw Go.Shelf
set_option maxRecDepth 100000
set_option maxHeartbeats 4000000
set_option linter.unusedSimpArgs false
set_option linter.unusedVariables false
def F19_l1(x0:(List TOp)):Nat→Int→Int→Option (Int)
 |0,_,_=>none
 |k+1,o1_0,o1_1=>(((if o1_1<(x0.length:Int)then some (decide (o1_1≤40))else some false)).bind fun o2=>(if o2=true then(rdI x0 o1_1).bind fun y5=>(F29 y5.O).bind fun t6=>F19_l1 x0 k ((IntKind.i64.wrap (o1_0+t6))) ((IntKind.i64.wrap (o1_1+1)))else some o1_0))
def F19(x0:(List TOp)):Option (Bool):=((F19_l1 x0 1099511627776 0 0).bind fun o1=>(((if(x0.length:Int)≤40 then some (decide (o1≤1500))else some false)).bind fun o7=>some o7))
def a19:AFn:=⟨30,[(.tmp 2)],
 (.seq (.reg [Qf 2 false])
 (.seq (.reg [Qe 3 0])
 (.seq (.seq (.reg [Qe 4 0])
 (.sem (.block 0 (.loop (.seq (.seq (.sem (.reg [Qa 5 4,
Qa 6 0,
Qh 7 6,
Qn 8 5 7,
Qa 9 8,
Qv 10 9 true 4,
zg 11 9 true (.bin .leq (.t 10) (kI 40)),
zl 12 (.pick (.t 9) (.t 11) (kB false)) [] [6]]))
 (.cond (.t 12)
 .skip
 (.exit 0)))
 (.seq (.block 1 (.reg [Qa 15 3,
Qa 16 0,
Qa 17 4,
Qp 18 28 16 17,
Qb 19 1 18,
Qc 20 23 19,
Qk 21 29 20,
sq 22 (.bin .add (.t 15) (.t 21)),
Qa 3 22]))
 (.reg [Qa 13 4,
Qm 14 13 1,
Qa 4 14])))))))
 (.seq (.sem (.reg [Qa 23 0,
Qh 24 23,
sq 25 (.bin .leq (.t 24) (kI 40)),
Qa 26 25,
Qv 27 26 true 3,
zg 28 26 true (.bin .leq (.t 27) (kI 1500)),
Qi 29 26 28,
Qa 2 29]))
 .ret))))⟩
theorem F19_ok{x0 r}(h:F19 x0=some r):An Tryz.prog 19 [.c (dM (x0.map EX))] [] (AL [.c (dB r)]) []:=by
 rw[F19]at h
 refine zc a19 (by kernel_rfl) rfl (ww ?_)
 obtain⟨o1,ho,h⟩:=bi h
 refine AB (fun s=>s=⟨[(0,oc (dM (x0.map EX))),(3,oc (dI o1))],[]⟩) ?_ ?_
 ·have h:=ho
  clear ho
  refine ww ?_
  refine bL (fun j s=>∃(o1_0:Int) (o1_1:Int),s=⟨[(0,oc (dM (x0.map EX))),(3,oc (dI o1_0)),(4,oc (dI o1_1))],[]⟩∧F19_l1 x0 j o1_0 o1_1=some o1) 1099511627776 [] ⟨0,0,rfl,h⟩ ?_
  rintro j _ ⟨o1_0,o1_1,rfl,h⟩
  cases j with
  |zero=>cases(show(none:Option _)=some _ from h)
  |succ j=>
   rw[F19_l1]at h
   refine ww ?_
   obtain⟨o2,ho,h⟩:=bi h
   refine AB (fun s=>s=⟨[(0,oc (dM (x0.map EX))),(3,oc (dI o1_0)),(4,oc (dI o1_1)),(12,oc (dB o2))],[]⟩) ?_ ?_
   ·have h:=ho
    clear ho
    refine ww ?_
    refine Af h (fun g3 h=>ww ?_) (fun g3 h=>?_)
    ·cases h
     exact eM [] rfl
    ·refine ww ?_
     cases h
     exact eM [] rfl
   ·rintro _ rfl
    clear ho
    refine ww ?_
    refine AE h (fun c4 h=>ww ?_) (fun c4 h=>?_)
    ·obtain⟨y5,hy5,h⟩:=bi h
     refine Az (enc:=EX) (xs:=x0) rfl rfl hy5 rfl (ww ?_)
     obtain⟨t6,ht6,h⟩:=bi h
     refine cN [] (F29_ok ht6) trivial (ww ?_)
     exact eL' j [] ⟨(IntKind.i64.wrap (o1_0+t6)),(IntKind.i64.wrap (o1_1+1)),rfl,h⟩ (Nat.lt_succ_self _)
    ·refine ww ?_
     cases h
     exact eM [] rfl
 rintro _ rfl
 clear ho
 refine ww ?_
 obtain⟨o7,ho,h⟩:=bi h
 refine AB (fun s=>s=⟨[(2,oc (dB o7))],[]⟩) ?_ ?_
 ·have h:=ho
  clear ho
  refine ww ?_
  refine Af h (fun g8 h=>ww ?_) (fun g8 h=>ww ?_)
  ·cases h
   exact eM [] rfl
  cases h
  exact eM [] rfl
 rintro _ rfl
 clear ho
 refine ww ?_
 cases h
 exact eF []
def F162_l2(x0:(List Label)):List Label→Nat→Option ((Bool) ⊕ (Unit))
 |[],o2_0=>some (Sum.inr (()))
 |xo2::xs,o2_0=>(((F120 xo2.Key).bind fun t5=>(if(nb t5)=true then some true else(F121 xo2.Value).bind fun t7=>(if(nb t7)=true then some true else(if 0<(o2_0:Int)then(rdI x0 ((IntKind.i64.wrap (((o2_0:Int))-1)))).bind fun y10=>some (nb (Op.bytesLess y10.Key.toList xo2.Key.toList))else some false)))).bind fun o4=>(if o4=true then(some false).map Sum.inl else F162_l2 x0 xs (o2_0+1)))
def F162(x0:(List Label)):Option (Bool):=(if 16<(x0.length:Int)then some false else(((ck (0≤x0.length∧x0.length≤4294967290)).bind fun u12=>F162_l2 x0 x0 0:Option ((Bool) ⊕ (Unit))).bind fun o2=>match o2 with|Sum.inl f=>some f|Sum.inr po2=>some true))
def a162:AFn:=⟨47,[(.tmp 2)],
 (.seq (.reg [Qf 2 false])
 (.seq (.seq (.reg [Qa 4 0,
Qh 5 4,
sq 6 (.bin .gtr (.t 5) (kI 16))])
 (.cond (.t 6)
 (.seq (.reg [Qf 2 false])
 .ret)
 .skip))
 (.seq (.seq (.reg [Qe 3 0])
 (.sem (.block 0 (.loop (.seq (.seq (.reg [Qa 7 3,
Qa 8 0,
Qh 9 8,
Qn 10 7 9])
 (.cond (.t 10)
 .skip
 (.exit 0)))
 (.seq (.block 1 (.seq (.sem (.regd [Qa 13 0,
Qa 14 3,
sd 15 (.indexA 2 (.t 13) (.t 14)) [0,1],
sd 16 (.fieldA 0 (.t 15)) [0,1,2],
sd 17 (.load none (.t 16)) [0,1,2,3],
zl 18 (.call 120 [(.t 17)]) [0,1,2,3,4] [],
sd 19 (.not (.t 18)) [0,1,2,3,4,5],
sd 20 (.mv (.t 19)) [0,1,2,3,4,5,6],
⟨(some 21),(some (20,false)),.mv (.t 0),[0,1,2,3,4,5,6,7],(.new [])⟩,
⟨(some 22),(some (20,false)),.mv (.t 3),[0,1,2,3,4,5,6,7],(.new [])⟩,
⟨(some 23),(some (20,false)),.indexA 2 (.t 21) (.t 22),[0,1,2,3,4,5,6,7,8,9],(.new [])⟩,
⟨(some 24),(some (20,false)),.fieldA 1 (.t 23),[0,1,2,3,4,5,6,7,8,9,10],(.new [])⟩,
⟨(some 25),(some (20,false)),.load none (.t 24),[0,1,2,3,4,5,6,7,8,9,10,11],(.new [])⟩,
⟨(some 26),(some (20,false)),.call 121 [(.t 25)],[0,1,2,3,4,5,6,7,8,9,10,11,12],(.lone [])⟩,
⟨(some 27),(some (20,false)),.not (.t 26),[0,1,2,3,4,5,6,7,8,9,10,11,12,13],(.new [])⟩,
zl 28 (.pick (.t 20) (kB true) (.t 27)) [0,1,2,3,4,5,6,7,8,9,10,11,12,13,14] [],
sd 29 (.mv (.t 28)) [0,1,2,3,4,5,6,7,8,9,10,11,12,13,14,15],
⟨(some 30),(some (29,false)),.mv (.t 3),[0,1,2,3,4,5,6,7,8,9,10,11,12,13,14,15,16],(.new [])⟩,
⟨(some 31),(some (29,false)),.bin .gtr (.t 30) (kI 0),[0,1,2,3,4,5,6,7,8,9,10,11,12,13,14,15,16,17],(.new [])⟩,
⟨(some 32),(some (29,false)),.mv (.t 31),[0,1,2,3,4,5,6,7,8,9,10,11,12,13,14,15,16,17,18],(.new [])⟩,
⟨(some 33),(some (32,true)),.mv (.t 0),[0,1,2,3,4,5,6,7,8,9,10,11,12,13,14,15,16,17,18,19],(.new [])⟩,
⟨(some 34),(some (32,true)),.mv (.t 3),[0,1,2,3,4,5,6,7,8,9,10,11,12,13,14,15,16,17,18,19],(.new [])⟩,
⟨(some 35),(some (32,true)),.bin .sub (.t 34) (kI 1),[0,1,2,3,4,5,6,7,8,9,10,11,12,13,14,15,16,17,18,19,21],(.new [])⟩,
⟨(some 36),(some (32,true)),.indexA 2 (.t 33) (.t 35),[0,1,2,3,4,5,6,7,8,9,10,11,12,13,14,15,16,17,18,19,20,21,22],(.new [])⟩,
⟨(some 37),(some (32,true)),.fieldA 0 (.t 36),[0,1,2,3,4,5,6,7,8,9,10,11,12,13,14,15,16,17,18,19,20,21,22,23],(.new [])⟩,
⟨(some 38),(some (32,true)),.load none (.t 37),[0,1,2,3,4,5,6,7,8,9,10,11,12,13,14,15,16,17,18,19,20,21,22,23,24],(.new [])⟩,
⟨(some 39),(some (32,true)),.mv (.t 0),[0,1,2,3,4,5,6,7,8,9,10,11,12,13,14,15,16,17,18,19],(.new [])⟩,
⟨(some 40),(some (32,true)),.mv (.t 3),[0,1,2,3,4,5,6,7,8,9,10,11,12,13,14,15,16,17,18,19],(.new [])⟩,
⟨(some 41),(some (32,true)),.indexA 2 (.t 39) (.t 40),[0,1,2,3,4,5,6,7,8,9,10,11,12,13,14,15,16,17,18,19,26,27],(.new [])⟩,
⟨(some 42),(some (32,true)),.fieldA 0 (.t 41),[0,1,2,3,4,5,6,7,8,9,10,11,12,13,14,15,16,17,18,19,26,27,28],(.new [])⟩,
⟨(some 43),(some (32,true)),.load none (.t 42),[0,1,2,3,4,5,6,7,8,9,10,11,12,13,14,15,16,17,18,19,26,27,28,29],(.new [])⟩,
⟨(some 44),(some (32,true)),.bin .geq (.t 38) (.t 43),[0,1,2,3,4,5,6,7,8,9,10,11,12,13,14,15,16,17,18,19,20,21,22,23,24,25,26,27,28,29,30],(.new [])⟩,
⟨(some 45),(some (29,false)),.pick (.t 32) (.t 44) (kB false),[0,1,2,3,4,5,6,7,8,9,10,11,12,13,14,15,16,17,18,19,20,21,22,23,24,25,26,27,28,29,30,31],(.lone [])⟩,
zl 46 (.pick (.t 29) (kB true) (.t 45)) [0,1,2,3,4,5,6,7,8,9,10,11,12,13,14,15,16,17,18,19,20,21,22,23,24,25,26,27,28,29,30,31,32] []]))
 (.cond (.t 46)
 (.seq (.reg [Qf 2 false])
 .ret)
 .skip)))
 (.reg [Qa 11 3,
Qm 12 11 1,
Qa 3 12])))))))
 (.seq (.reg [Qf 2 true])
 .ret))))⟩
theorem F162_ok{x0 r}(h:F162 x0=some r):An Tryz.prog 162 [.c (dM (x0.map AY))] [] (AL [.c (dB r)]) []:=by
 rw[F162]at h
 refine zc a162 (by kernel_rfl) rfl (ww ?_)
 refine AH h (fun c1 h=>ww ?_) (fun c1 h=>ww ?_)
 ·cases h
  exact eF []
 obtain⟨o2,ho,h⟩:=bi h
 refine AB (fun s=>∃po2,o2=Sum.inr po2∧s=⟨[],[]⟩) ?_ ?_
 ·have h0o2:=h
  have h:=ho
  clear ho
  obtain⟨_,hk,h⟩:=bi h
  have hk:=AS hk
  refine ww ?_
  refine bL (fun j s=>∃(o2_0:Nat),(o2_0≤x0.length∧j=x0.length-o2_0)∧s=⟨[(0,oc (dM (x0.map AY))),(3,oc (dI ((o2_0:Int))))],[]⟩∧F162_l2 x0 (x0.drop o2_0) o2_0=some o2) (x0.length-0) [] ⟨0,⟨hk.1,rfl⟩,rfl,h⟩ ?_
  rintro _ _ ⟨o2_0,⟨hi,rfl⟩,rfl,h⟩
  refine ww ?_
  refine Bg (fun c3=>?_) (fun c3=>?_)
  ·obtain⟨xo2,hxo2,hd⟩:=A5 (show(o2_0:Int)<(x0.length:Int)from c3)
   rw[hd,F162_l2]at h
   refine ww ?_
   obtain⟨o4,ho,h⟩:=bi h
   refine AB (fun s=>s=⟨[(0,oc (dM (x0.map AY))),(3,oc (dI ((o2_0:Int)))),(46,oc (dB o4))],[]⟩) ?_ ?_
   ·have h:=ho
    clear ho
    refine ww ?_
    refine Az (enc:=AY) (xs:=x0) rfl rfl hxo2 rfl (ww ?_)
    obtain⟨t5,ht5,h⟩:=bi h
    refine cN [] (F120_ok ht5) trivial (ww ?_)
    refine Cm h (fun g6 h=>ww ?_) (fun g6 h=>ww ?_)
    ·cases h
     exact eM [] rfl
    refine Az (enc:=AY) (xs:=x0) rfl rfl hxo2 rfl (ww ?_)
    obtain⟨t7,ht7,h⟩:=bi h
    refine cN [] (F121_ok ht7) trivial (ww ?_)
    refine Cm h (fun g8 h=>ww ?_) (fun g8 h=>ww ?_)
    ·cases h
     exact eM [] rfl
    refine B4 h (fun g9 h=>ww ?_) (fun g9 h=>ww ?_)
    ·obtain⟨y10,hy10,h⟩:=bi h
     refine Az (enc:=AY) (xs:=x0) rfl rfl hy10 rfl (ww ?_)
     refine Az (enc:=AY) (xs:=x0) rfl rfl hxo2 rfl (ww ?_)
     cases h
     exact eM [] rfl
    cases h
    exact eM [] rfl
   rintro _ rfl
   clear ho
   refine ww ?_
   refine AE h (fun c11 h=>ww ?_) (fun c11 h=>ww ?_)
   ·obtain⟨fh0o2,hfh0o2,rfl⟩:=Option.map_eq_some_iff.1 h
    have h:=hfh0o2.trans h0o2
    cases h
    exact eF []
   rw[AW (by omega)]
   exact eL' (x0.length-(o2_0+1)) [] ⟨o2_0+1,⟨by omega,rfl⟩,rfl,h⟩ (by omega)
  rw[A6 (show¬((o2_0:Int)<(x0.length:Int))from c3),F162_l2]at h
  refine ww ?_
  cases h
  exact eM [] ⟨_,rfl,rfl⟩
 rintro _ ⟨po2,rfl,rfl⟩
 clear ho
 dsimp only at h
 refine ww ?_
 cases h
 exact eF []
def F166_l13(rc25:Ab→Int→Option (Bool))(x1:Int):List Ab→Nat→Option ((Bool) ⊕ (Unit))
 |[],o13_0=>some (Sum.inr (()))
 |xo13::xs,o13_0=>(rc25 xo13 ((IntKind.i64.wrap (x1-1)))).bind fun t15=>(if(nb t15)=true then(some false).map Sum.inl else F166_l13 rc25 x1 xs (o13_0+1))
def F166_l18(rc25:Ab→Int→Option (Bool))(x0:Ab)(x1:Int):List Ay→Nat→Option ((Bool) ⊕ (Unit))
 |[],o18_0=>some (Sum.inr (()))
 |xo18::xs,o18_0=>(((F194 xo18.Name).bind fun t21=>(if(nb t21)=true then some true else(if 0<(o18_0:Int)then(rdI x0.Ae ((IntKind.i64.wrap (((o18_0:Int))-1)))).bind fun y24=>(if((Op.bytesLess xo18.Name.toList y24.Name.toList||decide (xo18.Name=y24.Name)))=true then some true else(rc25 xo18.V ((IntKind.i64.wrap (x1-1)))).bind fun t26=>some (nb t26))else(rc25 xo18.V ((IntKind.i64.wrap (x1-1)))).bind fun t27=>some (nb t27)))).bind fun o20=>(if o20=true then(some false).map Sum.inl else F166_l18 rc25 x0 x1 xs (o18_0+1)))
def F166(rc25:Ab→Int→Option (Bool))(x0:Ab)(x1:Int):Option (Bool):=(((if x1=0 then some true else(F193 x0).bind fun t3=>(if(nb t3)=true then some true else(if 64<(x0.At.length:Int)then some true else some (decide (64<(x0.Ae.length:Int))))))).bind fun o1=>(if o1=true then some false else(((if¬(x0.Kind=4)then(if 0<(x0.At.length:Int)then some true else(if¬(x0.Kind=5)then some (decide (0<(x0.Ae.length:Int)))else some false))else(if¬(x0.Kind=5)then some (decide (0<(x0.Ae.length:Int)))else some false))).bind fun o7=>(if o7=true then some false else(((ck (0≤x0.At.length∧x0.At.length≤4294967290)).bind fun u17=>F166_l13 rc25 x1 x0.At 0:Option ((Bool) ⊕ (Unit))).bind fun o13=>match o13 with|Sum.inl f=>some f|Sum.inr po13=>(((ck (0≤x0.Ae.length∧x0.Ae.length≤4294967290)).bind fun u29=>F166_l18 rc25 x0 x1 x0.Ae 0:Option ((Bool) ⊕ (Unit))).bind fun o18=>match o18 with|Sum.inl f=>some f|Sum.inr po18=>some true))))))
def a166:AFn:=⟨109,[(.tmp 4)],
 (.seq (.reg [Qg 2 0,
Qf 4 false])
 (.seq (.seq (.sem (.reg [Qa 7 1,
Qr 8 7 0,
Qa 9 8,
Qu 10 9 false 5 2,
zg 11 9 false (.call 193 [(.t 10)]),
zg 12 9 false (.not (.t 11)),
Qj 13 9 12,
Qa 14 13,
Qs 15 14 false 3 2,
Qt 16 14 false 15,
zg 17 14 false (.len (.t 16)),
zg 18 14 false (.bin .gtr (.t 17) (kI 64)),
Qj 19 14 18,
Qa 20 19,
Qs 21 20 false 4 2,
Qt 22 20 false 21,
zg 23 20 false (.len (.t 22)),
zg 24 20 false (.bin .gtr (.t 23) (kI 64)),
Qj 25 20 24]))
 (.cond (.t 25)
 (.seq (.reg [Qf 4 false])
 .ret)
 .skip))
 (.seq (.seq (.sem (.reg [Qb 26 0 2,
Qd 27 26,
sq 28 (.bin .neq (.t 27) (kI 4)),
Qa 29 28,
Qs 30 29 true 3 2,
Qt 31 29 true 30,
zg 32 29 true (.len (.t 31)),
zg 33 29 true (.bin .gtr (.t 32) (kI 0)),
Qi 34 29 33,
Qa 35 34,
Qs 36 35 false 0 2,
Qt 37 35 false 36,
zg 38 35 false (.bin .neq (.t 37) (kI 5)),
Qv 39 35 false 38,
Qs 40 39 true 4 2,
Qt 41 39 true 40,
zg 42 39 true (.len (.t 41)),
zg 43 39 true (.bin .gtr (.t 42) (kI 0)),
zg 44 35 false (.pick (.t 39) (.t 43) (kB false)),
Qj 45 35 44]))
 (.cond (.t 45)
 (.seq (.reg [Qf 4 false])
 .ret)
 .skip))
 (.seq (.seq (.reg [Qe 5 0])
 (.sem (.block 0 (.loop (.seq (.seq (.reg [Qa 46 5,
Qb 47 3 2,
Qd 48 47,
Qh 49 48,
Qn 50 46 49])
 (.cond (.t 50)
 .skip
 (.exit 0)))
 (.seq (.block 1 (.seq (.reg [Qb 53 3 2,
Qd 54 53,
Qa 55 5,
Qp 56 5 54 55,
Qc 57 5 56,
Qa 58 1,
sq 59 (.bin .sub (.t 58) (kI 1)),
Ql 60 166 57 59,
Qq 61 60])
 (.cond (.t 61)
 (.seq (.reg [Qf 4 false])
 .ret)
 .skip)))
 (.reg [Qa 51 5,
Qm 52 51 1,
Qa 5 52])))))))
 (.seq (.seq (.reg [Qe 6 0])
 (.sem (.block 2 (.loop (.seq (.seq (.reg [Qa 62 6,
Qb 63 4 2,
Qd 64 63,
Qh 65 64,
Qn 66 62 65])
 (.cond (.t 66)
 .skip
 (.exit 2)))
 (.seq (.block 3 (.seq (.sem (.regd [Qb 69 4 2,
sd 70 (.load none (.t 69)) [0],
Qa 71 6,
sd 72 (.indexA 6 (.t 70) (.t 71)) [0,1,2],
sd 73 (.fieldA 0 (.t 72)) [0,1,2,3],
sd 74 (.load none (.t 73)) [0,1,2,3,4],
zl 75 (.call 194 [(.t 74)]) [0,1,2,3,4,5] [],
sd 76 (.not (.t 75)) [0,1,2,3,4,5,6],
sd 77 (.mv (.t 76)) [0,1,2,3,4,5,6,7],
⟨(some 78),(some (77,false)),.mv (.t 6),[0,1,2,3,4,5,6,7,8],(.new [])⟩,
⟨(some 79),(some (77,false)),.bin .gtr (.t 78) (kI 0),[0,1,2,3,4,5,6,7,8,9],(.new [])⟩,
⟨(some 80),(some (77,false)),.mv (.t 79),[0,1,2,3,4,5,6,7,8,9,10],(.new [])⟩,
⟨(some 81),(some (80,true)),.fieldA 4 (.t 2),[0,1,2,3,4,5,6,7,8,9,10,11],(.new [])⟩,
⟨(some 82),(some (80,true)),.load none (.t 81),[0,1,2,3,4,5,6,7,8,9,10,11,12],(.new [])⟩,
⟨(some 83),(some (80,true)),.mv (.t 6),[0,1,2,3,4,5,6,7,8,9,10,11],(.new [])⟩,
⟨(some 84),(some (80,true)),.indexA 6 (.t 82) (.t 83),[0,1,2,3,4,5,6,7,8,9,10,11,12,13,14],(.new [])⟩,
⟨(some 85),(some (80,true)),.fieldA 0 (.t 84),[0,1,2,3,4,5,6,7,8,9,10,11,12,13,14,15],(.new [])⟩,
⟨(some 86),(some (80,true)),.load none (.t 85),[0,1,2,3,4,5,6,7,8,9,10,11,12,13,14,15,16],(.new [])⟩,
⟨(some 87),(some (80,true)),.fieldA 4 (.t 2),[0,1,2,3,4,5,6,7,8,9,10,11],(.new [])⟩,
⟨(some 88),(some (80,true)),.load none (.t 87),[0,1,2,3,4,5,6,7,8,9,10,11,18],(.new [])⟩,
⟨(some 89),(some (80,true)),.mv (.t 6),[0,1,2,3,4,5,6,7,8,9,10,11],(.new [])⟩,
⟨(some 90),(some (80,true)),.bin .sub (.t 89) (kI 1),[0,1,2,3,4,5,6,7,8,9,10,11,20],(.new [])⟩,
⟨(some 91),(some (80,true)),.indexA 6 (.t 88) (.t 90),[0,1,2,3,4,5,6,7,8,9,10,11,18,19,20,21],(.new [])⟩,
⟨(some 92),(some (80,true)),.fieldA 0 (.t 91),[0,1,2,3,4,5,6,7,8,9,10,11,18,19,20,21,22],(.new [])⟩,
⟨(some 93),(some (80,true)),.load none (.t 92),[0,1,2,3,4,5,6,7,8,9,10,11,18,19,20,21,22,23],(.new [])⟩,
⟨(some 94),(some (80,true)),.bin .leq (.t 86) (.t 93),[0,1,2,3,4,5,6,7,8,9,10,11,12,13,14,15,16,17,18,19,20,21,22,23,24],(.new [])⟩,
⟨(some 95),(some (77,false)),.pick (.t 80) (.t 94) (kB false),[0,1,2,3,4,5,6,7,8,9,10,11,12,13,14,15,16,17,18,19,20,21,22,23,24,25],(.lone [])⟩,
zl 96 (.pick (.t 77) (kB true) (.t 95)) [0,1,2,3,4,5,6,7,8,9,10,11,12,13,14,15,16,17,18,19,20,21,22,23,24,25,26] [],
sd 97 (.mv (.t 96)) [0,1,2,3,4,5,6,7,8,9,10,11,12,13,14,15,16,17,18,19,20,21,22,23,24,25,26,27],
⟨(some 98),(some (97,false)),.fieldA 4 (.t 2),[0,1,2,3,4,5,6,7,8,9,10,11,12,13,14,15,16,17,18,19,20,21,22,23,24,25,26,27,28],(.new [])⟩,
⟨(some 99),(some (97,false)),.load none (.t 98),[0,1,2,3,4,5,6,7,8,9,10,11,12,13,14,15,16,17,18,19,20,21,22,23,24,25,26,27,28,29],(.new [])⟩,
⟨(some 100),(some (97,false)),.mv (.t 6),[0,1,2,3,4,5,6,7,8,9,10,11,12,13,14,15,16,17,18,19,20,21,22,23,24,25,26,27,28],(.new [])⟩,
⟨(some 101),(some (97,false)),.indexA 6 (.t 99) (.t 100),[0,1,2,3,4,5,6,7,8,9,10,11,12,13,14,15,16,17,18,19,20,21,22,23,24,25,26,27,28,29,30,31],(.new [])⟩,
⟨(some 102),(some (97,false)),.fieldA 1 (.t 101),[0,1,2,3,4,5,6,7,8,9,10,11,12,13,14,15,16,17,18,19,20,21,22,23,24,25,26,27,28,29,30,31,32],(.new [])⟩,
⟨(some 103),(some (97,false)),.load (some 5) (.t 102),[0,1,2,3,4,5,6,7,8,9,10,11,12,13,14,15,16,17,18,19,20,21,22,23,24,25,26,27,28,29,30,31,32,33],(.new [])⟩,
⟨(some 104),(some (97,false)),.mv (.t 1),[0,1,2,3,4,5,6,7,8,9,10,11,12,13,14,15,16,17,18,19,20,21,22,23,24,25,26,27,28],(.new [])⟩,
⟨(some 105),(some (97,false)),.bin .sub (.t 104) (kI 1),[0,1,2,3,4,5,6,7,8,9,10,11,12,13,14,15,16,17,18,19,20,21,22,23,24,25,26,27,28,35],(.new [])⟩,
⟨(some 106),(some (97,false)),.call 166 [(.t 103),(.t 105)],[0,1,2,3,4,5,6,7,8,9,10,11,12,13,14,15,16,17,18,19,20,21,22,23,24,25,26,27,28,29,30,31,32,33,34,35,36],(.lone [])⟩,
⟨(some 107),(some (97,false)),.not (.t 106),[0,1,2,3,4,5,6,7,8,9,10,11,12,13,14,15,16,17,18,19,20,21,22,23,24,25,26,27,28,29,30,31,32,33,34,35,36,37],(.new [])⟩,
zl 108 (.pick (.t 97) (kB true) (.t 107)) [0,1,2,3,4,5,6,7,8,9,10,11,12,13,14,15,16,17,18,19,20,21,22,23,24,25,26,27,28,29,30,31,32,33,34,35,36,37,38] []]))
 (.cond (.t 108)
 (.seq (.reg [Qf 4 false])
 .ret)
 .skip)))
 (.reg [Qa 67 6,
Qm 68 67 1,
Qa 6 68])))))))
 (.seq (.reg [Qf 4 true])
 .ret))))))⟩
theorem F166_ok{rc25:Ab→Int→Option (Bool)}(ih25:∀{x0:Ab} {x1:Int} {r:Bool} (h:rc25 x0 x1=some r),An Tryz.prog 166 [.agg (AJ x0),.c (dI x1)] [] (AL [.c (dB r)]) []){x0:Ab}{x1:Int}{r:Bool}(h:F166 rc25 x0 x1=some r):An Tryz.prog 166 [.agg (AJ x0),.c (dI x1)] [] (AL [.c (dB r)]) []:=by
 rw[F166]at h
 refine zc a166 (by kernel_rfl) rfl (ww ?_)
 obtain⟨o1,ho,h⟩:=bi h
 refine AB (fun s=>s=⟨[(1,oc (dI x1)),(2,Pz 0),(25,oc (dB o1))],[xb (AJ x0)]⟩) ?_ ?_
 ·have h:=ho
  clear ho
  refine ww ?_
  refine Af h (fun g2 h=>ww ?_) (fun g2 h=>ww ?_)
  ·cases h
   exact eM [some 0] rfl
  obtain⟨t3,ht3,h⟩:=bi h
  refine cN [] (F193_ok ht3) trivial (ww ?_)
  refine AM h (fun g4 h=>ww ?_) (fun g4 h=>ww ?_)
  ·cases h
   exact eM [some 0] rfl
  refine Af h (fun g5 h=>ww ?_) (fun g5 h=>ww ?_)
  ·cases h
   exact eM [some 0] rfl
  cases h
  exact eM [some 0] rfl
 rintro _ rfl
 clear ho
 refine ww ?_
 refine AE h (fun c6 h=>ww ?_) (fun c6 h=>ww ?_)
 ·cases h
  exact eF []
 obtain⟨o7,ho,h⟩:=bi h
 refine AB (fun s=>s=⟨[(1,oc (dI x1)),(2,Pz 0),(45,oc (dB o7))],[xb (AJ x0)]⟩) ?_ ?_
 ·have h:=ho
  clear ho
  refine ww ?_
  refine Af h (fun g8 h=>ww ?_) (fun g8 h=>ww ?_)
  ·refine Af h (fun g9 h=>ww ?_) (fun g9 h=>ww ?_)
   ·cases h
    exact eM [some 0] rfl
   refine Af h (fun g10 h=>ww ?_) (fun g10 h=>ww ?_)
   ·cases h
    exact eM [some 0] rfl
   cases h
   exact eM [some 0] rfl
  refine Af h (fun g11 h=>ww ?_) (fun g11 h=>ww ?_)
  ·cases h
   exact eM [some 0] rfl
  cases h
  exact eM [some 0] rfl
 rintro _ rfl
 clear ho
 refine ww ?_
 refine AE h (fun c12 h=>ww ?_) (fun c12 h=>ww ?_)
 ·cases h
  exact eF []
 obtain⟨o13,ho,h⟩:=bi h
 refine AB (fun s=>∃po13,o13=Sum.inr po13∧s=⟨[(1,oc (dI x1)),(2,Pz 0)],[xb (AJ x0)]⟩) ?_ ?_
 ·have h0o13:=h
  have h:=ho
  clear ho
  obtain⟨_,hk,h⟩:=bi h
  have hk:=AS hk
  refine ww ?_
  refine bL (fun j s=>∃(o13_0:Nat),(o13_0≤x0.At.length∧j=x0.At.length-o13_0)∧s=⟨[(1,oc (dI x1)),(2,Pz 0),(5,oc (dI ((o13_0:Int))))],[xb (AJ x0)]⟩∧F166_l13 rc25 x1 (x0.At.drop o13_0) o13_0=some o13) (x0.At.length-0) [some 0] ⟨0,⟨hk.1,rfl⟩,rfl,h⟩ ?_
  rintro _ _ ⟨o13_0,⟨hi,rfl⟩,rfl,h⟩
  refine ww ?_
  refine Bg (fun c14=>?_) (fun c14=>?_)
  ·obtain⟨xo13,hxo13,hd⟩:=A5 (show(o13_0:Int)<(x0.At.length:Int)from c14)
   rw[hd,F166_l13]at h
   refine ww ?_
   refine Az (enc:=Ap) (xs:=x0.At) rfl rfl hxo13 (by rw[Cq];rfl) (ww ?_)
   obtain⟨t15,ht15,h⟩:=bi h
   refine cN [] (ih25 ht15) trivial (ww ?_)
   refine AE h (fun c16 h=>ww ?_) (fun c16 h=>ww ?_)
   ·obtain⟨fh0o13,hfh0o13,rfl⟩:=Option.map_eq_some_iff.1 h
    have h:=hfh0o13.trans h0o13
    cases h
    exact eF []
   rw[AW (by omega)]
   exact eL' (x0.At.length-(o13_0+1)) [some 0] ⟨o13_0+1,⟨by omega,rfl⟩,rfl,h⟩ (by omega)
  rw[A6 (show¬((o13_0:Int)<(x0.At.length:Int))from c14),F166_l13]at h
  refine ww ?_
  cases h
  exact eM [some 0] ⟨_,rfl,rfl⟩
 rintro _ ⟨po13,rfl,rfl⟩
 clear ho
 dsimp only at h
 refine ww ?_
 obtain⟨o18,ho,h⟩:=bi h
 refine AB (fun s=>∃po18,o18=Sum.inr po18∧s=⟨[],[]⟩) ?_ ?_
 ·have h0o18:=h
  have h:=ho
  clear ho
  obtain⟨_,hk,h⟩:=bi h
  have hk:=AS hk
  refine ww ?_
  refine bL (fun j s=>∃(o18_0:Nat),(o18_0≤x0.Ae.length∧j=x0.Ae.length-o18_0)∧s=⟨[(1,oc (dI x1)),(2,Pz 0),(6,oc (dI ((o18_0:Int))))],[xb (AJ x0)]⟩∧F166_l18 rc25 x0 x1 (x0.Ae.drop o18_0) o18_0=some o18) (x0.Ae.length-0) [some 0] ⟨0,⟨hk.1,rfl⟩,rfl,h⟩ ?_
  rintro _ _ ⟨o18_0,⟨hi,rfl⟩,rfl,h⟩
  refine ww ?_
  refine Bg (fun c19=>?_) (fun c19=>?_)
  ·obtain⟨xo18,hxo18,hd⟩:=A5 (show(o18_0:Int)<(x0.Ae.length:Int)from c19)
   rw[hd,F166_l18]at h
   refine ww ?_
   obtain⟨o20,ho,h⟩:=bi h
   refine AB (fun s=>s=⟨[(1,oc (dI x1)),(2,Pz 0),(6,oc (dI ((o18_0:Int)))),(108,oc (dB o20))],[xb (AJ x0)]⟩) ?_ ?_
   ·have h:=ho
    clear ho
    refine ww ?_
    refine Az (enc:=Ao) (xs:=x0.Ae) rfl rfl hxo18 (by rw[BA];rfl) (ww ?_)
    obtain⟨t21,ht21,h⟩:=bi h
    refine cN [] (F194_ok ht21) trivial (ww ?_)
    refine Cm h (fun g22 h=>ww ?_) (fun g22 h=>ww ?_)
    ·cases h
     exact eM [some 0] rfl
    refine B4 h (fun g23 h=>ww ?_) (fun g23 h=>ww ?_)
    ·refine Az (enc:=Ao) (xs:=x0.Ae) rfl rfl hxo18 (by rw[BA];rfl) (ww ?_)
     obtain⟨y24,hy24,h⟩:=bi h
     refine Az (enc:=Ao) (xs:=x0.Ae) rfl rfl hy24 (by rw[BA];rfl) (ww ?_)
     refine Cm h (fun g25 h=>ww ?_) (fun g25 h=>ww ?_)
     ·cases h
      exact eM [some 0] rfl
     refine Az (enc:=Ao) (xs:=x0.Ae) rfl rfl hxo18 (by rw[BA];rfl) (ww ?_)
     obtain⟨t26,ht26,h⟩:=bi h
     refine cN [] (ih25 ht26) trivial (ww ?_)
     cases h
     exact eM [some 0] rfl
    refine Az (enc:=Ao) (xs:=x0.Ae) rfl rfl hxo18 (by rw[BA];rfl) (ww ?_)
    obtain⟨t27,ht27,h⟩:=bi h
    refine cN [] (ih25 ht27) trivial (ww ?_)
    cases h
    exact eM [some 0] rfl
   rintro _ rfl
   clear ho
   refine ww ?_
   refine AE h (fun c28 h=>ww ?_) (fun c28 h=>ww ?_)
   ·obtain⟨fh0o18,hfh0o18,rfl⟩:=Option.map_eq_some_iff.1 h
    have h:=hfh0o18.trans h0o18
    cases h
    exact eF []
   rw[AW (by omega)]
   exact eL' (x0.Ae.length-(o18_0+1)) [some 0] ⟨o18_0+1,⟨by omega,rfl⟩,rfl,h⟩ (by omega)
  rw[A6 (show¬((o18_0:Int)<(x0.Ae.length:Int))from c19),F166_l18]at h
  refine ww ?_
  cases h
  exact eM [] ⟨_,rfl,rfl⟩
 rintro _ ⟨po18,rfl,rfl⟩
 clear ho
 dsimp only at h
 refine ww ?_
 cases h
 exact eF []
def F166k:Nat→Ab→Int→Option (Bool)
 |0=>fun _ _=>none
 |k+1=>F166 (F166k k)
theorem F166k_ok(k:Nat){x0:Ab}{x1:Int}{r:Bool}(h:F166k k x0 x1=some r):An Tryz.prog 166 [.agg (AJ x0),.c (dI x1)] [] (AL [.c (dB r)]) []:=by
 induction k generalizing x0 x1 r with
 |zero=>cases(show(none:Option (Bool))=some _ from h)
 |succ k ih=>exact F166_ok (fun h=>ih h) h
def F17(x0:Filter):Option ((List Ah)):=(F34 x0).bind fun t1=>some t1
def a17:AFn:=⟨6,[(.cell 2 (some 6))],
 (.seq (.reg [Qg 1 0,
sq 2 (.zbox [dS ⟨#[]⟩,dS ⟨#[]⟩,dN,dI 0,dB false,dN])])
 (.seq (.reg [Qc 3 3 1,
Qk 4 34 3,
sq 5 (.build [dS ⟨#[]⟩,dS ⟨#[]⟩,dN,dI 0,dB false,dN] [(0,3,(.t 4))]),
su (.store 6 (.t 2) (.t 5))])
 .ret))⟩
theorem F17_ok{x0 r}(h:F17 x0=some r):An Tryz.prog 17 [.agg (Bj x0)] [] (AL [.agg [dS x0.Kind,dS x0.Namespace,.own 0 0 0 (r.length) none,dI 0,dB false,dM (([]:List Object).map Ad)]]) [some (.arr 0 3 (r.map Al))]:=by
 rw[F17]at h
 refine zc a17 (by kernel_rfl) rfl (ww ?_)
 obtain⟨t1,ht1,h⟩:=bi h
 refine cN [] (F34_ok ht1) trivial (ww ?_)
 cases h
 exact eF [some 2]
def F157(x0:Ah)(x1:(List Label)):Option (Bool):=(F190 x1 x0.Key).bind fun t1=>(if x0.Op=1 then(((if t1.2=true then(F191 x0.Aq t1.1).bind fun t5=>some t5 else some false)).bind fun o3=>some o3)else(if x0.Op=2 then(((if(nb t1.2)=true then some true else(F191 x0.Aq t1.1).bind fun t9=>some (nb t9))).bind fun o7=>some o7)else(if x0.Op=3 then some t1.2 else(if x0.Op=4 then some (nb t1.2)else some false))))
def a157:AFn:=⟨43,[(.tmp 4)],
 (.seq (.reg [Qg 2 0,
Qf 4 false])
 (.seq (.reg [Qa 8 1,
Qb 9 0 2,
Qd 10 9,
Ql 11 190 8 10,
Qa 7 11,
Qo 12 7 0,
Qo 13 7 1,
Qa 5 12,
Qa 6 13])
 (.seq (.seq (.reg [Qb 14 1 2,
Qd 15 14])
 (.block 0 (.seq (.reg [Qr 17 15 1,
Qa 16 17])
 (.cond (.t 16)
 (.seq (.sem (.reg [Qa 18 6,
Qa 19 18,
Qs 20 19 true 2 2,
Qt 21 19 true 20,
Qv 22 19 true 5,
zg 23 19 true (.call 191 [(.t 21),(.t 22)]),
Qi 24 19 23,
Qa 4 24]))
 .ret)
 (.seq (.reg [Qr 26 15 2,
Qa 25 26])
 (.cond (.t 25)
 (.seq (.sem (.reg [Qa 27 6,
Qq 28 27,
Qa 29 28,
Qs 30 29 false 2 2,
Qt 31 29 false 30,
Qv 32 29 false 5,
zg 33 29 false (.call 191 [(.t 31),(.t 32)]),
zg 34 29 false (.not (.t 33)),
Qj 35 29 34,
Qa 4 35]))
 .ret)
 (.seq (.reg [Qr 37 15 3,
Qa 36 37])
 (.cond (.t 36)
 (.seq (.reg [Qa 38 6,
Qa 4 38])
 .ret)
 (.seq (.reg [Qr 40 15 4,
Qa 39 40])
 (.cond (.t 39)
 (.seq (.reg [Qa 41 6,
Qq 42 41,
Qa 4 42])
 .ret)
 .skip))))))))))
 (.seq (.reg [Qf 4 false])
 .ret))))⟩
theorem F157_ok{x0 x1 r}(h:F157 x0 x1=some r):An Tryz.prog 157 [.agg (By x0),.c (dM (x1.map AY))] [] (AL [.c (dB r)]) []:=by
 rw[F157]at h
 refine zc a157 (by kernel_rfl) rfl (ww ?_)
 obtain⟨t1,ht1,h⟩:=bi h
 refine cN [] (F190_ok ht1) trivial (ww ?_)
 refine AH h (fun c2 h=>ww ?_) (fun c2 h=>ww ?_)
 ·obtain⟨o3,ho,h⟩:=bi h
  refine AB (fun s=>s=⟨[(4,oc (dB o3))],[]⟩) ?_ ?_
  ·have h:=ho
   clear ho
   refine ww ?_
   refine AM h (fun g4 h=>ww ?_) (fun g4 h=>ww ?_)
   ·obtain⟨t5,ht5,h⟩:=bi h
    refine cN [] (F191_ok ht5) trivial (ww ?_)
    cases h
    exact eM [] rfl
   cases h
   exact eM [] rfl
  rintro _ rfl
  clear ho
  refine ww ?_
  cases h
  exact eF []
 refine AH h (fun c6 h=>ww ?_) (fun c6 h=>ww ?_)
 ·obtain⟨o7,ho,h⟩:=bi h
  refine AB (fun s=>s=⟨[(4,oc (dB o7))],[]⟩) ?_ ?_
  ·have h:=ho
   clear ho
   refine ww ?_
   refine AM h (fun g8 h=>ww ?_) (fun g8 h=>ww ?_)
   ·cases h
    exact eM [] rfl
   obtain⟨t9,ht9,h⟩:=bi h
   refine cN [] (F191_ok ht9) trivial (ww ?_)
   cases h
   exact eM [] rfl
  rintro _ rfl
  clear ho
  refine ww ?_
  cases h
  exact eF []
 refine AH h (fun c10 h=>ww ?_) (fun c10 h=>ww ?_)
 ·cases h
  exact eF []
 refine AH h (fun c11 h=>ww ?_) (fun c11 h=>ww ?_)
 ·cases h
  exact eF []
 cases h
 exact eF []
def F177_l2(x0:(List Label)):List Label→Nat→Option ((Bool) ⊕ (Unit))
 |[],o2_0=>some (Sum.inr (()))
 |xo2::xs,o2_0=>(((F112 xo2.Key).bind fun t5=>(if(nb t5)=true then some true else(F114 xo2.Value).bind fun t7=>(if(nb t7)=true then some true else(if 0<(o2_0:Int)then(rdI x0 ((IntKind.i64.wrap (((o2_0:Int))-1)))).bind fun y10=>some ((Op.bytesLess xo2.Key.toList y10.Key.toList||decide (xo2.Key=y10.Key)))else some false)))).bind fun o4=>(if o4=true then(some false).map Sum.inl else F177_l2 x0 xs (o2_0+1)))
def F177(x0:(List Label)):Option (Bool):=(if 16<(x0.length:Int)then some false else(((ck (0≤x0.length∧x0.length≤4294967290)).bind fun u12=>F177_l2 x0 x0 0:Option ((Bool) ⊕ (Unit))).bind fun o2=>match o2 with|Sum.inl f=>some f|Sum.inr po2=>some true))
def a177:AFn:=⟨41,[(.tmp 2)],
 (.seq (.reg [Qf 2 false])
 (.seq (.seq (.reg [Qa 5 0,
Qh 6 5,
sq 7 (.bin .gtr (.t 6) (kI 16))])
 (.cond (.t 7)
 (.seq (.reg [Qf 2 false])
 .ret)
 .skip))
 (.seq (.seq (.reg [Qa 8 0,
Qh 9 8,
Qe 10 0])
 (.sem (.block 0 (.loop (.seq (.reg [Qn 11 10 9])
 (.seq (.cond (.t 11)
 .skip
 (.exit 0))
 (.seq (.block 1 (.seq (.reg [Qa 12 10,
Qp 13 2 8 10,
Qc 14 2 13,
sq 4 (.zbox [dS ⟨#[]⟩,dS ⟨#[]⟩]),
Qa 3 12,
su (.store 2 (.t 4) (.t 14))])
 (.seq (.sem (.regd [Qb 15 0 4,
sd 16 (.load none (.t 15)) [0],
zl 17 (.call 112 [(.t 16)]) [0,1] [],
sd 18 (.not (.t 17)) [0,1,2],
sd 19 (.mv (.t 18)) [0,1,2,3],
⟨(some 20),(some (19,false)),.fieldA 1 (.t 4),[0,1,2,3,4],(.new [])⟩,
⟨(some 21),(some (19,false)),.load none (.t 20),[0,1,2,3,4,5],(.new [])⟩,
⟨(some 22),(some (19,false)),.call 114 [(.t 21)],[0,1,2,3,4,5,6],(.lone [])⟩,
⟨(some 23),(some (19,false)),.not (.t 22),[0,1,2,3,4,5,6,7],(.new [])⟩,
zl 24 (.pick (.t 19) (kB true) (.t 23)) [0,1,2,3,4,5,6,7,8] [],
sd 25 (.mv (.t 24)) [0,1,2,3,4,5,6,7,8,9],
⟨(some 26),(some (25,false)),.mv (.t 3),[0,1,2,3,4,5,6,7,8,9,10],(.new [])⟩,
⟨(some 27),(some (25,false)),.bin .gtr (.t 26) (kI 0),[0,1,2,3,4,5,6,7,8,9,10,11],(.new [])⟩,
⟨(some 28),(some (25,false)),.mv (.t 27),[0,1,2,3,4,5,6,7,8,9,10,11,12],(.new [])⟩,
⟨(some 29),(some (28,true)),.fieldA 0 (.t 4),[0,1,2,3,4,5,6,7,8,9,10,11,12,13],(.new [])⟩,
⟨(some 30),(some (28,true)),.load none (.t 29),[0,1,2,3,4,5,6,7,8,9,10,11,12,13,14],(.new [])⟩,
⟨(some 31),(some (28,true)),.mv (.t 0),[0,1,2,3,4,5,6,7,8,9,10,11,12,13],(.new [])⟩,
⟨(some 32),(some (28,true)),.mv (.t 3),[0,1,2,3,4,5,6,7,8,9,10,11,12,13],(.new [])⟩,
⟨(some 33),(some (28,true)),.bin .sub (.t 32) (kI 1),[0,1,2,3,4,5,6,7,8,9,10,11,12,13,17],(.new [])⟩,
⟨(some 34),(some (28,true)),.indexA 2 (.t 31) (.t 33),[0,1,2,3,4,5,6,7,8,9,10,11,12,13,16,17,18],(.new [])⟩,
⟨(some 35),(some (28,true)),.fieldA 0 (.t 34),[0,1,2,3,4,5,6,7,8,9,10,11,12,13,16,17,18,19],(.new [])⟩,
⟨(some 36),(some (28,true)),.load none (.t 35),[0,1,2,3,4,5,6,7,8,9,10,11,12,13,16,17,18,19,20],(.new [])⟩,
⟨(some 37),(some (28,true)),.bin .leq (.t 30) (.t 36),[0,1,2,3,4,5,6,7,8,9,10,11,12,13,14,15,16,17,18,19,20,21],(.new [])⟩,
⟨(some 38),(some (25,false)),.pick (.t 28) (.t 37) (kB false),[0,1,2,3,4,5,6,7,8,9,10,11,12,13,14,15,16,17,18,19,20,21,22],(.lone [])⟩,
zl 39 (.pick (.t 25) (kB true) (.t 38)) [0,1,2,3,4,5,6,7,8,9,10,11,12,13,14,15,16,17,18,19,20,21,22,23] []]))
 (.cond (.t 39)
 (.seq (.reg [Qf 2 false])
 .ret)
 .skip))))
 (.reg [Qm 40 10 1,
Qa 10 40]))))))))
 (.seq (.reg [Qf 2 true])
 .ret))))⟩
theorem F177_ok{x0 r}(h:F177 x0=some r):An Tryz.prog 177 [.c (dM (x0.map AY))] [] (AL [.c (dB r)]) []:=by
 rw[F177]at h
 refine zc a177 (by kernel_rfl) rfl (ww ?_)
 refine AH h (fun c1 h=>ww ?_) (fun c1 h=>ww ?_)
 ·cases h
  exact eF []
 obtain⟨o2,ho,h⟩:=bi h
 refine AB (fun s=>∃po2,o2=Sum.inr po2∧s=⟨[],[]⟩) ?_ ?_
 ·have h0o2:=h
  have h:=ho
  clear ho
  obtain⟨_,hk,h⟩:=bi h
  have hk:=AS hk
  refine ww ?_
  refine bL (fun j s=>∃(o2_0:Nat),(o2_0≤x0.length∧j=x0.length-o2_0)∧s=⟨[(0,oc (dM (x0.map AY))),(8,oc (dM (x0.map AY))),(9,oc (dI ((x0.length:Int)))),(10,oc (dI ((o2_0:Int))))],[]⟩∧F177_l2 x0 (x0.drop o2_0) o2_0=some o2) (x0.length-0) [] ⟨0,⟨hk.1,rfl⟩,rfl,h⟩ ?_
  rintro _ _ ⟨o2_0,⟨hi,rfl⟩,rfl,h⟩
  refine ww ?_
  refine Bg (fun c3=>?_) (fun c3=>?_)
  ·obtain⟨xo2,hxo2,hd⟩:=A5 (show(o2_0:Int)<(x0.length:Int)from c3)
   rw[hd,F177_l2]at h
   refine ww ?_
   refine Az (enc:=AY) (xs:=x0) rfl rfl hxo2 rfl (ww ?_)
   obtain⟨o4,ho,h⟩:=bi h
   refine AB (fun s=>s=⟨[(0,oc (dM (x0.map AY))),(8,oc (dM (x0.map AY))),(9,oc (dI ((x0.length:Int)))),(10,oc (dI ((o2_0:Int)))),(39,oc (dB o4))],[]⟩) ?_ ?_
   ·have h:=ho
    clear ho
    refine ww ?_
    obtain⟨t5,ht5,h⟩:=bi h
    refine cN [] (F112_ok ht5) trivial (ww ?_)
    refine Cm h (fun g6 h=>ww ?_) (fun g6 h=>ww ?_)
    ·cases h
     exact eM [] rfl
    obtain⟨t7,ht7,h⟩:=bi h
    refine cN [] (F114_ok ht7) trivial (ww ?_)
    refine Cm h (fun g8 h=>ww ?_) (fun g8 h=>ww ?_)
    ·cases h
     exact eM [] rfl
    refine B4 h (fun g9 h=>ww ?_) (fun g9 h=>ww ?_)
    ·obtain⟨y10,hy10,h⟩:=bi h
     refine Az (enc:=AY) (xs:=x0) rfl rfl hy10 rfl (ww ?_)
     cases h
     exact eM [] rfl
    cases h
    exact eM [] rfl
   rintro _ rfl
   clear ho
   refine ww ?_
   refine AE h (fun c11 h=>ww ?_) (fun c11 h=>ww ?_)
   ·obtain⟨fh0o2,hfh0o2,rfl⟩:=Option.map_eq_some_iff.1 h
    have h:=hfh0o2.trans h0o2
    cases h
    exact eF []
   rw[AW (by omega)]
   exact eL' (x0.length-(o2_0+1)) [] ⟨o2_0+1,⟨by omega,rfl⟩,rfl,h⟩ (by omega)
  rw[A6 (show¬((o2_0:Int)<(x0.length:Int))from c3),F177_l2]at h
  refine ww ?_
  cases h
  exact eM [] ⟨_,rfl,rfl⟩
 rintro _ ⟨po2,rfl,rfl⟩
 clear ho
 dsimp only at h
 refine ww ?_
 cases h
 exact eF []
def F181_l16(rc103:Ab→Int→Option (Bool))(x1:Int):List Ab→Nat→Option ((Bool) ⊕ (Unit))
 |[],o16_0=>some (Sum.inr (()))
 |xo16::xs,o16_0=>(rc103 xo16 ((IntKind.i64.wrap (x1-1)))).bind fun t18=>(if(nb t18)=true then(some false).map Sum.inl else F181_l16 rc103 x1 xs (o16_0+1))
def F181_l21(rc103:Ab→Int→Option (Bool))(x0:Ab)(x1:Int):List Ay→Nat→Option ((Bool) ⊕ (Unit))
 |[],o21_0=>some (Sum.inr (()))
 |xo21::xs,o21_0=>(((F199 xo21.Name).bind fun t24=>(if(nb t24)=true then some true else(if 0<(o21_0:Int)then(rdI x0.Ae ((IntKind.i64.wrap (((o21_0:Int))-1)))).bind fun y27=>(if(nb (Op.bytesLess y27.Name.toList xo21.Name.toList))=true then some true else(rc103 xo21.V ((IntKind.i64.wrap (x1-1)))).bind fun t29=>some (nb t29))else(rc103 xo21.V ((IntKind.i64.wrap (x1-1)))).bind fun t30=>some (nb t30)))).bind fun o23=>(if o23=true then(some false).map Sum.inl else F181_l21 rc103 x0 x1 xs (o21_0+1)))
def F181(rc103:Ab→Int→Option (Bool))(x0:Ab)(x1:Int):Option (Bool):=(((if x1=0 then some true else(F198 x0).bind fun t3=>(if(nb t3)=true then some true else(if¬(x0.Kind=4)then(if 0<(x0.At.length:Int)then some true else(if¬(x0.Kind=5)then(if 0<(x0.Ae.length:Int)then some true else(if 64<(x0.At.length:Int)then some true else some (decide (64<(x0.Ae.length:Int)))))else(if 64<(x0.At.length:Int)then some true else some (decide (64<(x0.Ae.length:Int))))))else(if¬(x0.Kind=5)then(if 0<(x0.Ae.length:Int)then some true else(if 64<(x0.At.length:Int)then some true else some (decide (64<(x0.Ae.length:Int)))))else(if 64<(x0.At.length:Int)then some true else some (decide (64<(x0.Ae.length:Int))))))))).bind fun o1=>(if o1=true then some false else(((ck (0≤x0.At.length∧x0.At.length≤4294967290)).bind fun u20=>F181_l16 rc103 x1 x0.At 0:Option ((Bool) ⊕ (Unit))).bind fun o16=>match o16 with|Sum.inl f=>some f|Sum.inr po16=>(((ck (0≤x0.Ae.length∧x0.Ae.length≤4294967290)).bind fun u32=>F181_l21 rc103 x0 x1 x0.Ae 0:Option ((Bool) ⊕ (Unit))).bind fun o21=>match o21 with|Sum.inl f=>some f|Sum.inr po21=>some true))))
def a181:AFn:=⟨100,[(.tmp 4)],
 (.seq (.reg [Qg 2 0,
Qf 4 false])
 (.seq (.seq (.sem (.reg [Qa 9 1,
Qr 10 9 0,
Qa 11 10,
Qu 12 11 false 5 2,
zg 13 11 false (.call 198 [(.t 12)]),
zg 14 11 false (.not (.t 13)),
Qj 15 11 14,
Qa 16 15,
Qs 17 16 false 0 2,
Qt 18 16 false 17,
zg 19 16 false (.bin .neq (.t 18) (kI 4)),
Qv 20 16 false 19,
Qs 21 20 true 3 2,
Qt 22 20 true 21,
zg 23 20 true (.len (.t 22)),
zg 24 20 true (.bin .gtr (.t 23) (kI 0)),
zg 25 16 false (.pick (.t 20) (.t 24) (kB false)),
Qj 26 16 25,
Qa 27 26,
Qs 28 27 false 0 2,
Qt 29 27 false 28,
zg 30 27 false (.bin .neq (.t 29) (kI 5)),
Qv 31 27 false 30,
Qs 32 31 true 4 2,
Qt 33 31 true 32,
zg 34 31 true (.len (.t 33)),
zg 35 31 true (.bin .gtr (.t 34) (kI 0)),
zg 36 27 false (.pick (.t 31) (.t 35) (kB false)),
Qj 37 27 36,
Qa 38 37,
Qs 39 38 false 3 2,
Qt 40 38 false 39,
zg 41 38 false (.len (.t 40)),
zg 42 38 false (.bin .gtr (.t 41) (kI 64)),
Qj 43 38 42,
Qa 44 43,
Qs 45 44 false 4 2,
Qt 46 44 false 45,
zg 47 44 false (.len (.t 46)),
zg 48 44 false (.bin .gtr (.t 47) (kI 64)),
Qj 49 44 48]))
 (.cond (.t 49)
 (.seq (.reg [Qf 4 false])
 .ret)
 .skip))
 (.seq (.seq (.reg [Qb 50 3 2,
Qd 51 50,
Qh 52 51,
Qe 53 0])
 (.sem (.block 0 (.loop (.seq (.reg [Qn 54 53 52])
 (.seq (.cond (.t 54)
 .skip
 (.exit 0))
 (.seq (.block 1 (.seq (.reg [Qp 55 5 51 53,
Qc 56 5 55,
sq 6 (.zbox [dI 0,dI 0,dS ⟨#[]⟩,dN,dN]),
su (.store 5 (.t 6) (.t 56))])
 (.seq (.reg [Qc 57 5 6,
Qa 58 1,
sq 59 (.bin .sub (.t 58) (kI 1)),
Ql 60 181 57 59,
Qq 61 60])
 (.cond (.t 61)
 (.seq (.reg [Qf 4 false])
 .ret)
 .skip))))
 (.reg [Qm 62 53 1,
Qa 53 62]))))))))
 (.seq (.seq (.reg [Qb 63 4 2,
Qd 64 63,
Qh 65 64,
Qe 66 0])
 (.sem (.block 2 (.loop (.seq (.reg [Qn 67 66 65])
 (.seq (.cond (.t 67)
 .skip
 (.exit 2))
 (.seq (.block 3 (.seq (.reg [Qa 68 66,
Qp 69 6 64 66,
Qc 70 6 69,
sq 8 (.zbox [dS ⟨#[]⟩,dI 0,dI 0,dS ⟨#[]⟩,dN,dN]),
Qa 7 68,
su (.store 6 (.t 8) (.t 70))])
 (.seq (.sem (.regd [Qb 71 0 8,
sd 72 (.load none (.t 71)) [0],
zl 73 (.call 199 [(.t 72)]) [0,1] [],
sd 74 (.not (.t 73)) [0,1,2],
sd 75 (.mv (.t 74)) [0,1,2,3],
⟨(some 76),(some (75,false)),.mv (.t 7),[0,1,2,3,4],(.new [])⟩,
⟨(some 77),(some (75,false)),.bin .gtr (.t 76) (kI 0),[0,1,2,3,4,5],(.new [])⟩,
⟨(some 78),(some (75,false)),.mv (.t 77),[0,1,2,3,4,5,6],(.new [])⟩,
⟨(some 79),(some (78,true)),.fieldA 4 (.t 2),[0,1,2,3,4,5,6,7],(.new [])⟩,
⟨(some 80),(some (78,true)),.load none (.t 79),[0,1,2,3,4,5,6,7,8],(.new [])⟩,
⟨(some 81),(some (78,true)),.mv (.t 7),[0,1,2,3,4,5,6,7],(.new [])⟩,
⟨(some 82),(some (78,true)),.bin .sub (.t 81) (kI 1),[0,1,2,3,4,5,6,7,10],(.new [])⟩,
⟨(some 83),(some (78,true)),.indexA 6 (.t 80) (.t 82),[0,1,2,3,4,5,6,7,8,9,10,11],(.new [])⟩,
⟨(some 84),(some (78,true)),.fieldA 0 (.t 83),[0,1,2,3,4,5,6,7,8,9,10,11,12],(.new [])⟩,
⟨(some 85),(some (78,true)),.load none (.t 84),[0,1,2,3,4,5,6,7,8,9,10,11,12,13],(.new [])⟩,
⟨(some 86),(some (78,true)),.fieldA 0 (.t 8),[0,1,2,3,4,5,6,7],(.new [])⟩,
⟨(some 87),(some (78,true)),.load none (.t 86),[0,1,2,3,4,5,6,7,15],(.new [])⟩,
⟨(some 88),(some (78,true)),.bin .geq (.t 85) (.t 87),[0,1,2,3,4,5,6,7,8,9,10,11,12,13,14,15,16],(.new [])⟩,
⟨(some 89),(some (75,false)),.pick (.t 78) (.t 88) (kB false),[0,1,2,3,4,5,6,7,8,9,10,11,12,13,14,15,16,17],(.lone [])⟩,
zl 90 (.pick (.t 75) (kB true) (.t 89)) [0,1,2,3,4,5,6,7,8,9,10,11,12,13,14,15,16,17,18] [],
sd 91 (.mv (.t 90)) [0,1,2,3,4,5,6,7,8,9,10,11,12,13,14,15,16,17,18,19],
⟨(some 92),(some (91,false)),.fieldA 1 (.t 8),[0,1,2,3,4,5,6,7,8,9,10,11,12,13,14,15,16,17,18,19,20],(.new [])⟩,
⟨(some 93),(some (91,false)),.load (some 5) (.t 92),[0,1,2,3,4,5,6,7,8,9,10,11,12,13,14,15,16,17,18,19,20,21],(.new [])⟩,
⟨(some 94),(some (91,false)),.mv (.t 1),[0,1,2,3,4,5,6,7,8,9,10,11,12,13,14,15,16,17,18,19,20],(.new [])⟩,
⟨(some 95),(some (91,false)),.bin .sub (.t 94) (kI 1),[0,1,2,3,4,5,6,7,8,9,10,11,12,13,14,15,16,17,18,19,20,23],(.new [])⟩,
⟨(some 96),(some (91,false)),.call 181 [(.t 93),(.t 95)],[0,1,2,3,4,5,6,7,8,9,10,11,12,13,14,15,16,17,18,19,20,21,22,23,24],(.lone [])⟩,
⟨(some 97),(some (91,false)),.not (.t 96),[0,1,2,3,4,5,6,7,8,9,10,11,12,13,14,15,16,17,18,19,20,21,22,23,24,25],(.new [])⟩,
zl 98 (.pick (.t 91) (kB true) (.t 97)) [0,1,2,3,4,5,6,7,8,9,10,11,12,13,14,15,16,17,18,19,20,21,22,23,24,25,26] []]))
 (.cond (.t 98)
 (.seq (.reg [Qf 4 false])
 .ret)
 .skip))))
 (.reg [Qm 99 66 1,
Qa 66 99]))))))))
 (.seq (.reg [Qf 4 true])
 .ret)))))⟩
theorem F181_ok{rc103:Ab→Int→Option (Bool)}(ih103:∀{x0:Ab} {x1:Int} {r:Bool} (h:rc103 x0 x1=some r),An Tryz.prog 181 [.agg (AJ x0),.c (dI x1)] [] (AL [.c (dB r)]) []){x0:Ab}{x1:Int}{r:Bool}(h:F181 rc103 x0 x1=some r):An Tryz.prog 181 [.agg (AJ x0),.c (dI x1)] [] (AL [.c (dB r)]) []:=by
 rw[F181]at h
 refine zc a181 (by kernel_rfl) rfl (ww ?_)
 obtain⟨o1,ho,h⟩:=bi h
 refine AB (fun s=>s=⟨[(1,oc (dI x1)),(2,Pz 0),(49,oc (dB o1))],[xb (AJ x0)]⟩) ?_ ?_
 ·have h:=ho
  clear ho
  refine ww ?_
  refine Af h (fun g2 h=>ww ?_) (fun g2 h=>ww ?_)
  ·cases h
   exact eM [some 0] rfl
  obtain⟨t3,ht3,h⟩:=bi h
  refine cN [] (F198_ok ht3) trivial (ww ?_)
  refine AM h (fun g4 h=>ww ?_) (fun g4 h=>ww ?_)
  ·cases h
   exact eM [some 0] rfl
  refine Af h (fun g5 h=>ww ?_) (fun g5 h=>ww ?_)
  ·refine Af h (fun g6 h=>ww ?_) (fun g6 h=>ww ?_)
   ·cases h
    exact eM [some 0] rfl
   refine Af h (fun g7 h=>ww ?_) (fun g7 h=>ww ?_)
   ·refine Af h (fun g8 h=>ww ?_) (fun g8 h=>ww ?_)
    ·cases h
     exact eM [some 0] rfl
    refine Af h (fun g9 h=>ww ?_) (fun g9 h=>ww ?_)
    ·cases h
     exact eM [some 0] rfl
    cases h
    exact eM [some 0] rfl
   refine Af h (fun g10 h=>ww ?_) (fun g10 h=>ww ?_)
   ·cases h
    exact eM [some 0] rfl
   cases h
   exact eM [some 0] rfl
  refine Af h (fun g11 h=>ww ?_) (fun g11 h=>ww ?_)
  ·refine Af h (fun g12 h=>ww ?_) (fun g12 h=>ww ?_)
   ·cases h
    exact eM [some 0] rfl
   refine Af h (fun g13 h=>ww ?_) (fun g13 h=>ww ?_)
   ·cases h
    exact eM [some 0] rfl
   cases h
   exact eM [some 0] rfl
  refine Af h (fun g14 h=>ww ?_) (fun g14 h=>ww ?_)
  ·cases h
   exact eM [some 0] rfl
  cases h
  exact eM [some 0] rfl
 rintro _ rfl
 clear ho
 refine ww ?_
 refine AE h (fun c15 h=>ww ?_) (fun c15 h=>ww ?_)
 ·cases h
  exact eF []
 obtain⟨o16,ho,h⟩:=bi h
 refine AB (fun s=>∃po16,o16=Sum.inr po16∧s=⟨[(1,oc (dI x1)),(2,Pz 0)],[xb (AJ x0)]⟩) ?_ ?_
 ·have h0o16:=h
  have h:=ho
  clear ho
  obtain⟨_,hk,h⟩:=bi h
  have hk:=AS hk
  refine ww ?_
  refine bL (fun j s=>∃(o16_0:Nat),(o16_0≤x0.At.length∧j=x0.At.length-o16_0)∧s=⟨[(1,oc (dI x1)),(2,Pz 0),(51,oc (dM (x0.At.map Ap))),(52,oc (dI ((x0.At.length:Int)))),(53,oc (dI ((o16_0:Int))))],[xb (AJ x0)]⟩∧F181_l16 rc103 x1 (x0.At.drop o16_0) o16_0=some o16) (x0.At.length-0) [some 0] ⟨0,⟨hk.1,rfl⟩,rfl,h⟩ ?_
  rintro _ _ ⟨o16_0,⟨hi,rfl⟩,rfl,h⟩
  refine ww ?_
  refine Bg (fun c17=>?_) (fun c17=>?_)
  ·obtain⟨xo16,hxo16,hd⟩:=A5 (show(o16_0:Int)<(x0.At.length:Int)from c17)
   rw[hd,F181_l16]at h
   refine ww ?_
   refine Az (enc:=Ap) (xs:=x0.At) rfl rfl hxo16 (by rw[Cq];rfl) (ww ?_)
   obtain⟨t18,ht18,h⟩:=bi h
   refine cN [] (ih103 ht18) trivial (ww ?_)
   refine AE h (fun c19 h=>ww ?_) (fun c19 h=>ww ?_)
   ·obtain⟨fh0o16,hfh0o16,rfl⟩:=Option.map_eq_some_iff.1 h
    have h:=hfh0o16.trans h0o16
    cases h
    exact eF []
   rw[AW (by omega)]
   exact eL' (x0.At.length-(o16_0+1)) [some 0] ⟨o16_0+1,⟨by omega,rfl⟩,rfl,h⟩ (by omega)
  rw[A6 (show¬((o16_0:Int)<(x0.At.length:Int))from c17),F181_l16]at h
  refine ww ?_
  cases h
  exact eM [some 0] ⟨_,rfl,rfl⟩
 rintro _ ⟨po16,rfl,rfl⟩
 clear ho
 dsimp only at h
 refine ww ?_
 obtain⟨o21,ho,h⟩:=bi h
 refine AB (fun s=>∃po21,o21=Sum.inr po21∧s=⟨[],[]⟩) ?_ ?_
 ·have h0o21:=h
  have h:=ho
  clear ho
  obtain⟨_,hk,h⟩:=bi h
  have hk:=AS hk
  refine ww ?_
  refine bL (fun j s=>∃(o21_0:Nat),(o21_0≤x0.Ae.length∧j=x0.Ae.length-o21_0)∧s=⟨[(1,oc (dI x1)),(2,Pz 0),(64,oc (dM (x0.Ae.map Ao))),(65,oc (dI ((x0.Ae.length:Int)))),(66,oc (dI ((o21_0:Int))))],[xb (AJ x0)]⟩∧F181_l21 rc103 x0 x1 (x0.Ae.drop o21_0) o21_0=some o21) (x0.Ae.length-0) [some 0] ⟨0,⟨hk.1,rfl⟩,rfl,h⟩ ?_
  rintro _ _ ⟨o21_0,⟨hi,rfl⟩,rfl,h⟩
  refine ww ?_
  refine Bg (fun c22=>?_) (fun c22=>?_)
  ·obtain⟨xo21,hxo21,hd⟩:=A5 (show(o21_0:Int)<(x0.Ae.length:Int)from c22)
   rw[hd,F181_l21]at h
   refine ww ?_
   refine Az (enc:=Ao) (xs:=x0.Ae) rfl rfl hxo21 (by rw[BA];rfl) (ww ?_)
   obtain⟨o23,ho,h⟩:=bi h
   refine AB (fun s=>s=⟨[(1,oc (dI x1)),(2,Pz 0),(64,oc (dM (x0.Ae.map Ao))),(65,oc (dI ((x0.Ae.length:Int)))),(66,oc (dI ((o21_0:Int)))),(98,oc (dB o23))],[xb (AJ x0)]⟩) ?_ ?_
   ·have h:=ho
    clear ho
    refine ww ?_
    obtain⟨t24,ht24,h⟩:=bi h
    refine cN [] (F199_ok ht24) trivial (ww ?_)
    refine Cm h (fun g25 h=>ww ?_) (fun g25 h=>ww ?_)
    ·cases h
     exact eM [some 0] rfl
    refine B4 h (fun g26 h=>ww ?_) (fun g26 h=>ww ?_)
    ·obtain⟨y27,hy27,h⟩:=bi h
     refine Az (enc:=Ao) (xs:=x0.Ae) rfl rfl hy27 (by rw[BA];rfl) (ww ?_)
     refine Cm h (fun g28 h=>ww ?_) (fun g28 h=>ww ?_)
     ·cases h
      exact eM [some 0] rfl
     obtain⟨t29,ht29,h⟩:=bi h
     refine cN [] (ih103 ht29) trivial (ww ?_)
     cases h
     exact eM [some 0] rfl
    obtain⟨t30,ht30,h⟩:=bi h
    refine cN [] (ih103 ht30) trivial (ww ?_)
    cases h
    exact eM [some 0] rfl
   rintro _ rfl
   clear ho
   refine ww ?_
   refine AE h (fun c31 h=>ww ?_) (fun c31 h=>ww ?_)
   ·obtain⟨fh0o21,hfh0o21,rfl⟩:=Option.map_eq_some_iff.1 h
    have h:=hfh0o21.trans h0o21
    cases h
    exact eF []
   rw[AW (by omega)]
   exact eL' (x0.Ae.length-(o21_0+1)) [some 0] ⟨o21_0+1,⟨by omega,rfl⟩,rfl,h⟩ (by omega)
  rw[A6 (show¬((o21_0:Int)<(x0.Ae.length:Int))from c22),F181_l21]at h
  refine ww ?_
  cases h
  exact eM [] ⟨_,rfl,rfl⟩
 rintro _ ⟨po21,rfl,rfl⟩
 clear ho
 dsimp only at h
 refine ww ?_
 cases h
 exact eF []
def F181k:Nat→Ab→Int→Option (Bool)
 |0=>fun _ _=>none
 |k+1=>F181 (F181k k)
theorem F181k_ok(k:Nat){x0:Ab}{x1:Int}{r:Bool}(h:F181k k x0 x1=some r):An Tryz.prog 181 [.agg (AJ x0),.c (dI x1)] [] (AL [.c (dB r)]) []:=by
 induction k generalizing x0 x1 r with
 |zero=>cases(show(none:Option (Bool))=some _ from h)
 |succ k ih=>exact F181_ok (fun h=>ih h) h
def F42(x0:Ab)(x1:Ab):Option (Bool):=(F72k 1099511627776 x0 x1).bind fun t1=>some (decide (t1=0))
def a42:AFn:=⟨9,[(.tmp 4)],
 (.seq (.reg [Qg 2 0,
Qg 3 1,
Qf 4 false])
 (.seq (.reg [Qc 5 5 2,
Qc 6 5 3,
Ql 7 72 5 6,
Qr 8 7 0,
Qa 4 8])
 .ret))⟩
theorem F42_ok{x0 x1 r}(h:F42 x0 x1=some r):An Tryz.prog 42 [.agg (AJ x0),.agg (AJ x1)] [] (AL [.c (dB r)]) []:=by
 rw[F42]at h
 refine zc a42 (by kernel_rfl) rfl (ww ?_)
 obtain⟨t1,ht1,h⟩:=bi h
 refine cN [] (F72k_ok 1099511627776 ht1) trivial (ww ?_)
 cases h
 exact eF []
end Go.Proofs.YtdkmamiedcanfaaGreat
