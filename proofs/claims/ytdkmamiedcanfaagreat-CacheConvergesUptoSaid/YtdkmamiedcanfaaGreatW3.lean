/- Each Go function as a function over typed data, and its walk. -/
import Derived.Test.YtdkmamiedcanfaaGreatW0
import Derived.Test.YtdkmamiedcanfaaGreatW1
import Derived.Test.YtdkmamiedcanfaaGreatW2
namespace Go.Proofs.YtdkmamiedcanfaaGreat
open Go Go.Fw Go.Shelf
set_option maxRecDepth 100000
set_option maxHeartbeats 4000000
set_option linter.unusedSimpArgs false
set_option linter.unusedVariables false
def F120_l8(x0:ByteArray):Nat→Int→Option ((Bool) ⊕ (Unit))
 |0,_=>none
 |k+1,o8_0=>(if o8_0<(x0.size:Int)then(byI x0 o8_0).bind fun y10=>(F159 y10).bind fun t11=>(if(nb t11)=true then(some false).map Sum.inl else F120_l8 x0 k ((IntKind.i64.wrap (o8_0+1))))else some (Sum.inr (())))
def F120(x0:ByteArray):Option (Bool):=(((if(x0.size:Int)<1 then some true else(if 40<(x0.size:Int)then some true else(byI x0 0).bind fun y4=>(if y4<97 then some true else(byI x0 0).bind fun y6=>some (decide (122<y6)))))).bind fun o1=>(if o1=true then some false else((F120_l8 x0 1099511627776 0:Option ((Bool) ⊕ (Unit))).bind fun o8=>match o8 with|Sum.inl f=>some f|Sum.inr po8=>some true)))
def a120:AFn:=⟨33,[(.tmp 2)],
 (.seq (.reg [Qf 2 false])
 (.seq (.seq (.sem (.reg [Qa 4 0,
sq 5 (.slen (.t 4)),
sq 6 (.bin .lss (.t 5) (kI 1)),
Qa 7 6,
Qv 8 7 false 0,
zg 9 7 false (.slen (.t 8)),
zg 10 7 false (.bin .gtr (.t 9) (kI 40)),
Qj 11 7 10,
Qa 12 11,
Qv 13 12 false 0,
zg 14 12 false (.sidx (.t 13) (kI 0)),
zg 15 12 false (.bin .lss (.t 14) (.k (.c (.d (.v (.int .u8 97)))))),
Qj 16 12 15,
Qa 17 16,
Qv 18 17 false 0,
zg 19 17 false (.sidx (.t 18) (kI 0)),
zg 20 17 false (.bin .gtr (.t 19) (.k (.c (.d (.v (.int .u8 122)))))),
Qj 21 17 20]))
 (.cond (.t 21)
 (.seq (.reg [Qf 2 false])
 .ret)
 .skip))
 (.seq (.seq (.reg [Qe 3 0])
 (.sem (.block 0 (.loop (.seq (.seq (.reg [Qa 22 3,
Qa 23 0,
sq 24 (.slen (.t 23)),
Qn 25 22 24])
 (.cond (.t 25)
 .skip
 (.exit 0)))
 (.seq (.block 1 (.seq (.reg [Qa 28 0,
Qa 29 3,
sq 30 (.sidx (.t 28) (.t 29)),
Qk 31 159 30,
Qq 32 31])
 (.cond (.t 32)
 (.seq (.reg [Qf 2 false])
 .ret)
 .skip)))
 (.reg [Qa 26 3,
Qm 27 26 1,
Qa 3 27])))))))
 (.seq (.reg [Qf 2 true])
 .ret))))⟩
theorem F120_ok{x0 r}(h:F120 x0=some r):An Tryz.prog 120 [.c (dS x0)] [] (AL [.c (dB r)]) []:=by
 rw[F120]at h
 refine zc a120 (by kernel_rfl) rfl (ww ?_)
 obtain⟨o1,ho,h⟩:=bi h
 refine AB (fun s=>s=⟨[(0,oc (dS x0)),(21,oc (dB o1))],[]⟩) ?_ ?_
 ·have h:=ho
  clear ho
  refine ww ?_
  refine Af h (fun g2 h=>ww ?_) (fun g2 h=>ww ?_)
  ·cases h
   exact eM [] rfl
  refine Af h (fun g3 h=>ww ?_) (fun g3 h=>ww ?_)
  ·cases h
   exact eM [] rfl
  obtain⟨y4,hy4,h⟩:=bi h
  refine Bx rfl rfl hy4 (ww ?_)
  refine Af h (fun g5 h=>ww ?_) (fun g5 h=>ww ?_)
  ·cases h
   exact eM [] rfl
  obtain⟨y6,hy6,h⟩:=bi h
  refine Bx rfl rfl hy6 (ww ?_)
  cases h
  exact eM [] rfl
 rintro _ rfl
 clear ho
 refine ww ?_
 refine AE h (fun c7 h=>ww ?_) (fun c7 h=>ww ?_)
 ·cases h
  exact eF []
 obtain⟨o8,ho,h⟩:=bi h
 refine AB (fun s=>∃po8,o8=Sum.inr po8∧s=⟨[],[]⟩) ?_ ?_
 ·have h0o8:=h
  have h:=ho
  clear ho
  refine ww ?_
  refine bL (fun j s=>∃(o8_0:Int),s=⟨[(0,oc (dS x0)),(3,oc (dI o8_0))],[]⟩∧F120_l8 x0 j o8_0=some o8) 1099511627776 [] ⟨0,rfl,h⟩ ?_
  rintro j _ ⟨o8_0,rfl,h⟩
  cases j with
  |zero=>cases(show(none:Option _)=some _ from h)
  |succ j=>
   rw[F120_l8]at h
   refine ww ?_
   refine AH h (fun c9 h=>ww ?_) (fun c9 h=>?_)
   ·obtain⟨y10,hy10,h⟩:=bi h
    refine Bx rfl rfl hy10 (ww ?_)
    obtain⟨t11,ht11,h⟩:=bi h
    refine cN [] (F159_ok ht11) trivial (ww ?_)
    refine AE h (fun c12 h=>ww ?_) (fun c12 h=>?_)
    ·obtain⟨fh0o8,hfh0o8,rfl⟩:=Option.map_eq_some_iff.1 h
     have h:=hfh0o8.trans h0o8
     cases h
     exact eF []
    ·refine ww ?_
     exact eL' j [] ⟨(IntKind.i64.wrap (o8_0+1)),rfl,h⟩ (Nat.lt_succ_self _)
   ·refine ww ?_
    cases h
    exact eM [] ⟨_,rfl,rfl⟩
 rintro _ ⟨po8,rfl,rfl⟩
 clear ho
 dsimp only at h
 refine ww ?_
 cases h
 exact eF []
def F164_l5(o1_0:Nat)(x0:(List ByteArray))(xo1:ByteArray):Nat→Int→Option (((Bool) ⊕ (Unit)) ⊕ (Unit))
 |0,_=>none
 |k+1,o5_0=>(if o5_0<(o1_0:Int)then(rdI x0 o5_0).bind fun y7=>(if y7=xo1 then((some false).map Sum.inl).map Sum.inl else F164_l5 o1_0 x0 xo1 k ((IntKind.i64.wrap (o5_0+1))))else some (Sum.inr (())))
def F164_l1(x0:(List ByteArray)):List ByteArray→Nat→Option ((Bool) ⊕ (Unit))
 |[],o1_0=>some (Sum.inr (()))
 |xo1::xs,o1_0=>(F161 xo1).bind fun t3=>(if(nb t3)=true then(some false).map Sum.inl else((F164_l5 o1_0 x0 xo1 1099511627776 0:Option (((Bool) ⊕ (Unit)) ⊕ (Unit))).bind fun o5=>match o5 with|Sum.inl f=>some f|Sum.inr po5=>F164_l1 x0 xs (o1_0+1)))
def F164(x0:(List ByteArray)):Option (Bool):=(((ck (0≤x0.length∧x0.length≤4294967290)).bind fun u9=>F164_l1 x0 x0 0:Option ((Bool) ⊕ (Unit))).bind fun o1=>match o1 with|Sum.inl f=>some f|Sum.inr po1=>some (decide ((x0.length:Int)≤16)))
def a164:AFn:=⟨34,[(.tmp 2)],
 (.seq (.reg [Qf 2 false])
 (.seq (.seq (.reg [Qe 3 0])
 (.sem (.block 0 (.loop (.seq (.seq (.reg [Qa 5 3,
Qa 6 0,
Qh 7 6,
Qn 8 5 7])
 (.cond (.t 8)
 .skip
 (.exit 0)))
 (.seq (.block 1 (.seq (.seq (.reg [Qa 11 0,
Qa 12 3,
Qp 13 1 11 12,
Qd 14 13,
Qk 15 161 14,
Qq 16 15])
 (.cond (.t 16)
 (.seq (.reg [Qf 2 false])
 .ret)
 .skip))
 (.seq (.reg [Qe 4 0])
 (.sem (.block 2 (.loop (.seq (.seq (.reg [Qa 17 4,
Qa 18 3,
Qn 19 17 18])
 (.cond (.t 19)
 .skip
 (.exit 2)))
 (.seq (.block 3 (.seq (.regd [Qa 22 0,
Qa 23 4,
sd 24 (.indexA 1 (.t 22) (.t 23)) [0,1],
sd 25 (.load none (.t 24)) [0,1,2],
Qa 26 0,
Qa 27 3,
sd 28 (.indexA 1 (.t 26) (.t 27)) [4,5],
sd 29 (.load none (.t 28)) [4,5,6],
sd 30 (.bin .eql (.t 25) (.t 29)) [0,1,2,3,4,5,6,7]])
 (.cond (.t 30)
 (.seq (.reg [Qf 2 false])
 .ret)
 .skip)))
 (.reg [Qa 20 4,
Qm 21 20 1,
Qa 4 21])))))))))
 (.reg [Qa 9 3,
Qm 10 9 1,
Qa 3 10])))))))
 (.seq (.reg [Qa 31 0,
Qh 32 31,
sq 33 (.bin .leq (.t 32) (kI 16)),
Qa 2 33])
 .ret)))⟩
theorem F164_ok{x0 r}(h:F164 x0=some r):An Tryz.prog 164 [.c (dM (x0.map eS))] [] (AL [.c (dB r)]) []:=by
 rw[F164]at h
 refine zc a164 (by kernel_rfl) rfl (ww ?_)
 obtain⟨o1,ho,h⟩:=bi h
 refine AB (fun s=>∃po1,o1=Sum.inr po1∧s=⟨[(0,oc (dM (x0.map eS)))],[]⟩) ?_ ?_
 ·have h0o1:=h
  have h:=ho
  clear ho
  obtain⟨_,hk,h⟩:=bi h
  have hk:=AS hk
  refine ww ?_
  refine bL (fun j s=>∃(o1_0:Nat),(o1_0≤x0.length∧j=x0.length-o1_0)∧s=⟨[(0,oc (dM (x0.map eS))),(3,oc (dI ((o1_0:Int))))],[]⟩∧F164_l1 x0 (x0.drop o1_0) o1_0=some o1) (x0.length-0) [] ⟨0,⟨hk.1,rfl⟩,rfl,h⟩ ?_
  rintro _ _ ⟨o1_0,⟨hi,rfl⟩,rfl,h⟩
  refine ww ?_
  refine Bg (fun c2=>?_) (fun c2=>?_)
  ·obtain⟨xo1,hxo1,hd⟩:=A5 (show(o1_0:Int)<(x0.length:Int)from c2)
   rw[hd,F164_l1]at h
   refine ww ?_
   refine Az (enc:=eS) (xs:=x0) rfl rfl hxo1 rfl (ww ?_)
   obtain⟨t3,ht3,h⟩:=bi h
   refine cN [] (F161_ok ht3) trivial (ww ?_)
   refine AE h (fun c4 h=>ww ?_) (fun c4 h=>ww ?_)
   ·obtain⟨fh0o1,hfh0o1,rfl⟩:=Option.map_eq_some_iff.1 h
    have h:=hfh0o1.trans h0o1
    cases h
    exact eF []
   obtain⟨o5,ho,h⟩:=bi h
   refine AB (fun s=>∃po5,o5=Sum.inr po5∧s=⟨[(0,oc (dM (x0.map eS))),(3,oc (dI ((o1_0:Int))))],[]⟩) ?_ ?_
   ·have h0o5:=h
    have h:=ho
    clear ho
    refine ww ?_
    refine bL (fun j s=>∃(o5_0:Int),s=⟨[(0,oc (dM (x0.map eS))),(3,oc (dI ((o1_0:Int)))),(4,oc (dI o5_0))],[]⟩∧F164_l5 o1_0 x0 xo1 j o5_0=some o5) 1099511627776 [] ⟨0,rfl,h⟩ ?_
    rintro j _ ⟨o5_0,rfl,h⟩
    cases j with
    |zero=>cases(show(none:Option _)=some _ from h)
    |succ j=>
     rw[F164_l5]at h
     refine ww ?_
     refine AH h (fun c6 h=>ww ?_) (fun c6 h=>?_)
     ·obtain⟨y7,hy7,h⟩:=bi h
      refine Az (enc:=eS) (xs:=x0) rfl rfl hy7 rfl (ww ?_)
      refine Az (enc:=eS) (xs:=x0) rfl rfl hxo1 rfl (ww ?_)
      refine AH h (fun c8 h=>ww ?_) (fun c8 h=>?_)
      ·obtain⟨fh0o5,hfh0o5,rfl⟩:=Option.map_eq_some_iff.1 h
       have h:=hfh0o5.trans h0o5
       obtain⟨fh0o1,hfh0o1,rfl⟩:=Option.map_eq_some_iff.1 h
       have h:=hfh0o1.trans h0o1
       cases h
       exact eF []
      ·refine ww ?_
       exact eL' j [] ⟨(IntKind.i64.wrap (o5_0+1)),rfl,h⟩ (Nat.lt_succ_self _)
     ·refine ww ?_
      cases h
      exact eM [] ⟨_,rfl,rfl⟩
   rintro _ ⟨po5,rfl,rfl⟩
   clear ho
   dsimp only at h
   refine ww ?_
   rw[AW (by omega)]
   exact eL' (x0.length-(o1_0+1)) [] ⟨o1_0+1,⟨by omega,rfl⟩,rfl,h⟩ (by omega)
  rw[A6 (show¬((o1_0:Int)<(x0.length:Int))from c2),F164_l1]at h
  refine ww ?_
  cases h
  exact eM [] ⟨_,rfl,rfl⟩
 rintro _ ⟨po1,rfl,rfl⟩
 clear ho
 dsimp only at h
 refine ww ?_
 cases h
 exact eF []
def F165_l1(x0:(List AI)):List AI→Nat→Option ((Bool) ⊕ (Unit))
 |[],o1_0=>some (Sum.inr (()))
 |xo1::xs,o1_0=>(((F161 xo1.Name).bind fun t4=>(if(nb t4)=true then some true else(if 0<(o1_0:Int)then(rdI x0 ((IntKind.i64.wrap (((o1_0:Int))-1)))).bind fun y7=>some ((Op.bytesLess xo1.Name.toList y7.Name.toList||decide (xo1.Name=y7.Name)))else some false))).bind fun o3=>(if o3=true then(some false).map Sum.inl else(((if(xo1.Ae.length:Int)<1 then some true else(if 600<(xo1.Ae.length:Int)then some true else(F192 xo1.Ae).bind fun t12=>some (nb t12)))).bind fun o9=>(if o9=true then(some false).map Sum.inl else F165_l1 x0 xs (o1_0+1)))))
def F165(x0:(List AI)):Option (Bool):=(((ck (0≤x0.length∧x0.length≤4294967290)).bind fun u14=>F165_l1 x0 x0 0:Option ((Bool) ⊕ (Unit))).bind fun o1=>match o1 with|Sum.inl f=>some f|Sum.inr po1=>some (decide ((x0.length:Int)≤16)))
def a165:AFn:=⟨63,[(.tmp 2)],
 (.seq (.reg [Qf 2 false])
 (.seq (.seq (.reg [Qe 3 0])
 (.sem (.block 0 (.loop (.seq (.seq (.reg [Qa 4 3,
Qa 5 0,
Qh 6 5,
Qn 7 4 6])
 (.cond (.t 7)
 .skip
 (.exit 0)))
 (.seq (.block 1 (.seq (.seq (.sem (.regd [Qa 10 0,
Qa 11 3,
sd 12 (.indexA 2 (.t 10) (.t 11)) [0,1],
sd 13 (.fieldA 0 (.t 12)) [0,1,2],
sd 14 (.load none (.t 13)) [0,1,2,3],
zl 15 (.call 161 [(.t 14)]) [0,1,2,3,4] [],
sd 16 (.not (.t 15)) [0,1,2,3,4,5],
sd 17 (.mv (.t 16)) [0,1,2,3,4,5,6],
⟨(some 18),(some (17,false)),.mv (.t 3),[0,1,2,3,4,5,6,7],(.new [])⟩,
⟨(some 19),(some (17,false)),.bin .gtr (.t 18) (kI 0),[0,1,2,3,4,5,6,7,8],(.new [])⟩,
⟨(some 20),(some (17,false)),.mv (.t 19),[0,1,2,3,4,5,6,7,8,9],(.new [])⟩,
⟨(some 21),(some (20,true)),.mv (.t 0),[0,1,2,3,4,5,6,7,8,9,10],(.new [])⟩,
⟨(some 22),(some (20,true)),.mv (.t 3),[0,1,2,3,4,5,6,7,8,9,10],(.new [])⟩,
⟨(some 23),(some (20,true)),.indexA 2 (.t 21) (.t 22),[0,1,2,3,4,5,6,7,8,9,10,11,12],(.new [])⟩,
⟨(some 24),(some (20,true)),.fieldA 0 (.t 23),[0,1,2,3,4,5,6,7,8,9,10,11,12,13],(.new [])⟩,
⟨(some 25),(some (20,true)),.load none (.t 24),[0,1,2,3,4,5,6,7,8,9,10,11,12,13,14],(.new [])⟩,
⟨(some 26),(some (20,true)),.mv (.t 0),[0,1,2,3,4,5,6,7,8,9,10],(.new [])⟩,
⟨(some 27),(some (20,true)),.mv (.t 3),[0,1,2,3,4,5,6,7,8,9,10],(.new [])⟩,
⟨(some 28),(some (20,true)),.bin .sub (.t 27) (kI 1),[0,1,2,3,4,5,6,7,8,9,10,17],(.new [])⟩,
⟨(some 29),(some (20,true)),.indexA 2 (.t 26) (.t 28),[0,1,2,3,4,5,6,7,8,9,10,16,17,18],(.new [])⟩,
⟨(some 30),(some (20,true)),.fieldA 0 (.t 29),[0,1,2,3,4,5,6,7,8,9,10,16,17,18,19],(.new [])⟩,
⟨(some 31),(some (20,true)),.load none (.t 30),[0,1,2,3,4,5,6,7,8,9,10,16,17,18,19,20],(.new [])⟩,
⟨(some 32),(some (20,true)),.bin .leq (.t 25) (.t 31),[0,1,2,3,4,5,6,7,8,9,10,11,12,13,14,15,16,17,18,19,20,21],(.new [])⟩,
⟨(some 33),(some (17,false)),.pick (.t 20) (.t 32) (kB false),[0,1,2,3,4,5,6,7,8,9,10,11,12,13,14,15,16,17,18,19,20,21,22],(.lone [])⟩,
zl 34 (.pick (.t 17) (kB true) (.t 33)) [0,1,2,3,4,5,6,7,8,9,10,11,12,13,14,15,16,17,18,19,20,21,22,23] []]))
 (.cond (.t 34)
 (.seq (.reg [Qf 2 false])
 .ret)
 .skip))
 (.seq (.sem (.reg [Qa 35 0,
Qa 36 3,
Qp 37 2 35 36,
Qb 38 1 37,
Qd 39 38,
Qh 40 39,
sq 41 (.bin .lss (.t 40) (kI 1)),
Qa 42 41,
Qv 43 42 false 0,
Qv 44 42 false 3,
zg 45 42 false (.indexA 2 (.t 43) (.t 44)),
Qs 46 42 false 1 45,
Qt 47 42 false 46,
zg 48 42 false (.len (.t 47)),
zg 49 42 false (.bin .gtr (.t 48) (kI 600)),
Qj 50 42 49,
Qa 51 50,
Qv 52 51 false 0,
Qv 53 51 false 3,
zg 54 51 false (.indexA 2 (.t 52) (.t 53)),
Qs 55 51 false 1 54,
Qt 56 51 false 55,
zg 57 51 false (.call 192 [(.t 56)]),
zg 58 51 false (.not (.t 57)),
Qj 59 51 58]))
 (.cond (.t 59)
 (.seq (.reg [Qf 2 false])
 .ret)
 .skip))))
 (.reg [Qa 8 3,
Qm 9 8 1,
Qa 3 9])))))))
 (.seq (.reg [Qa 60 0,
Qh 61 60,
sq 62 (.bin .leq (.t 61) (kI 16)),
Qa 2 62])
 .ret)))⟩
theorem F165_ok{x0 r}(h:F165 x0=some r):An Tryz.prog 165 [.c (dM (x0.map AG))] [] (AL [.c (dB r)]) []:=by
 rw[F165]at h
 refine zc a165 (by kernel_rfl) rfl (ww ?_)
 obtain⟨o1,ho,h⟩:=bi h
 refine AB (fun s=>∃po1,o1=Sum.inr po1∧s=⟨[(0,oc (dM (x0.map AG)))],[]⟩) ?_ ?_
 ·have h0o1:=h
  have h:=ho
  clear ho
  obtain⟨_,hk,h⟩:=bi h
  have hk:=AS hk
  refine ww ?_
  refine bL (fun j s=>∃(o1_0:Nat),(o1_0≤x0.length∧j=x0.length-o1_0)∧s=⟨[(0,oc (dM (x0.map AG))),(3,oc (dI ((o1_0:Int))))],[]⟩∧F165_l1 x0 (x0.drop o1_0) o1_0=some o1) (x0.length-0) [] ⟨0,⟨hk.1,rfl⟩,rfl,h⟩ ?_
  rintro _ _ ⟨o1_0,⟨hi,rfl⟩,rfl,h⟩
  refine ww ?_
  refine Bg (fun c2=>?_) (fun c2=>?_)
  ·obtain⟨xo1,hxo1,hd⟩:=A5 (show(o1_0:Int)<(x0.length:Int)from c2)
   rw[hd,F165_l1]at h
   refine ww ?_
   obtain⟨o3,ho,h⟩:=bi h
   refine AB (fun s=>s=⟨[(0,oc (dM (x0.map AG))),(3,oc (dI ((o1_0:Int)))),(34,oc (dB o3))],[]⟩) ?_ ?_
   ·have h:=ho
    clear ho
    refine ww ?_
    refine Az (enc:=AG) (xs:=x0) rfl rfl hxo1 rfl (ww ?_)
    obtain⟨t4,ht4,h⟩:=bi h
    refine cN [] (F161_ok ht4) trivial (ww ?_)
    refine Cm h (fun g5 h=>ww ?_) (fun g5 h=>ww ?_)
    ·cases h
     exact eM [] rfl
    refine B4 h (fun g6 h=>ww ?_) (fun g6 h=>ww ?_)
    ·refine Az (enc:=AG) (xs:=x0) rfl rfl hxo1 rfl (ww ?_)
     obtain⟨y7,hy7,h⟩:=bi h
     refine Az (enc:=AG) (xs:=x0) rfl rfl hy7 rfl (ww ?_)
     cases h
     exact eM [] rfl
    cases h
    exact eM [] rfl
   rintro _ rfl
   clear ho
   refine ww ?_
   refine AE h (fun c8 h=>ww ?_) (fun c8 h=>ww ?_)
   ·obtain⟨fh0o1,hfh0o1,rfl⟩:=Option.map_eq_some_iff.1 h
    have h:=hfh0o1.trans h0o1
    cases h
    exact eF []
   obtain⟨o9,ho,h⟩:=bi h
   refine AB (fun s=>s=⟨[(0,oc (dM (x0.map AG))),(3,oc (dI ((o1_0:Int)))),(59,oc (dB o9))],[]⟩) ?_ ?_
   ·have h:=ho
    clear ho
    refine ww ?_
    refine Az (enc:=AG) (xs:=x0) rfl rfl hxo1 rfl (ww ?_)
    refine Af h (fun g10 h=>ww ?_) (fun g10 h=>ww ?_)
    ·cases h
     exact eM [] rfl
    refine Az (enc:=AG) (xs:=x0) rfl rfl hxo1 rfl (ww ?_)
    refine Af h (fun g11 h=>ww ?_) (fun g11 h=>ww ?_)
    ·cases h
     exact eM [] rfl
    refine Az (enc:=AG) (xs:=x0) rfl rfl hxo1 rfl (ww ?_)
    obtain⟨t12,ht12,h⟩:=bi h
    refine cN [] (F192_ok ht12) trivial (ww ?_)
    cases h
    exact eM [] rfl
   rintro _ rfl
   clear ho
   refine ww ?_
   refine AE h (fun c13 h=>ww ?_) (fun c13 h=>ww ?_)
   ·obtain⟨fh0o1,hfh0o1,rfl⟩:=Option.map_eq_some_iff.1 h
    have h:=hfh0o1.trans h0o1
    cases h
    exact eF []
   rw[AW (by omega)]
   exact eL' (x0.length-(o1_0+1)) [] ⟨o1_0+1,⟨by omega,rfl⟩,rfl,h⟩ (by omega)
  rw[A6 (show¬((o1_0:Int)<(x0.length:Int))from c2),F165_l1]at h
  refine ww ?_
  cases h
  exact eM [] ⟨_,rfl,rfl⟩
 rintro _ ⟨po1,rfl,rfl⟩
 clear ho
 dsimp only at h
 refine ww ?_
 cases h
 exact eF []
def F193(x0:Ab):Option (Bool):=(if x0.Kind=1 then(((if x0.N=0 then some (decide (x0.S=(⟨#[]⟩:ByteArray)))else(if x0.N=1 then some (decide (x0.S=(⟨#[]⟩:ByteArray)))else some false))).bind fun o2=>some o2)else(if x0.Kind=2 then(((if(-1000000000000000)≤x0.N then(if x0.N≤1000000000000000 then some (decide (x0.S=(⟨#[]⟩:ByteArray)))else some false)else some false)).bind fun o6=>some o6)else(if x0.Kind=3 then(((if x0.N=0 then(F204 x0.S).bind fun t12=>some t12 else some false)).bind fun o10=>some o10)else(((if x0.Kind=0 then some (decide (x0.Kind=0))else(if x0.Kind=4 then some (decide (x0.Kind=4))else some (decide (x0.Kind=5))))).bind fun o13=>(if o13=true then(((if x0.N=0 then some (decide (x0.S=(⟨#[]⟩:ByteArray)))else some false)).bind fun o17=>some o17)else some false)))))
def a193:AFn:=⟨57,[(.tmp 2)],
 (.seq (.reg [Qg 1 0,
Qf 2 false])
 (.seq (.seq (.reg [Qb 3 0 1,
Qd 4 3])
 (.block 0 (.seq (.reg [Qr 6 4 1,
Qa 5 6])
 (.cond (.t 5)
 (.seq (.sem (.reg [Qb 7 1 1,
Qd 8 7,
Qr 9 8 0,
Qa 10 9,
Qs 11 10 false 1 1,
Qt 12 10 false 11,
zg 13 10 false (.bin .eql (.t 12) (kI 1)),
Qj 14 10 13,
Qa 15 14,
Qs 16 15 true 2 1,
Qt 17 15 true 16,
zg 18 15 true (.bin .eql (.t 17) (kS ⟨#[]⟩)),
Qi 19 15 18,
Qa 2 19]))
 .ret)
 (.seq (.reg [Qr 21 4 2,
Qa 20 21])
 (.cond (.t 20)
 (.seq (.sem (.reg [Qb 22 1 1,
Qd 23 22,
sq 24 (.bin .geq (.t 23) (kI (-1000000000000000))),
Qa 25 24,
Qs 26 25 true 1 1,
Qt 27 25 true 26,
zg 28 25 true (.bin .leq (.t 27) (kI 1000000000000000)),
Qi 29 25 28,
Qa 30 29,
Qs 31 30 true 2 1,
Qt 32 30 true 31,
zg 33 30 true (.bin .eql (.t 32) (kS ⟨#[]⟩)),
Qi 34 30 33,
Qa 2 34]))
 .ret)
 (.seq (.reg [Qr 36 4 3,
Qa 35 36])
 (.cond (.t 35)
 (.seq (.sem (.reg [Qb 37 1 1,
Qd 38 37,
Qr 39 38 0,
Qa 40 39,
Qs 41 40 true 2 1,
Qt 42 40 true 41,
zg 43 40 true (.call 204 [(.t 42)]),
Qi 44 40 43,
Qa 2 44]))
 .ret)
 (.seq (.sem (.seq (.reg [Qr 46 4 0,
Qa 45 46])
 (.cond (.t 45)
 .skip
 (.seq (.reg [Qr 47 4 4,
Qa 45 47])
 (.cond (.t 45)
 .skip
 (.reg [Qr 48 4 5,
Qa 45 48]))))))
 (.cond (.t 45)
 (.seq (.sem (.reg [Qb 49 1 1,
Qd 50 49,
Qr 51 50 0,
Qa 52 51,
Qs 53 52 true 2 1,
Qt 54 52 true 53,
zg 55 52 true (.bin .eql (.t 54) (kS ⟨#[]⟩)),
Qi 56 52 55,
Qa 2 56]))
 .ret)
 .skip))))))))))
 (.seq (.reg [Qf 2 false])
 .ret)))⟩
theorem F193_ok{x0 r}(h:F193 x0=some r):An Tryz.prog 193 [.agg (AJ x0)] [] (AL [.c (dB r)]) []:=by
 rw[F193]at h
 refine zc a193 (by kernel_rfl) rfl (ww ?_)
 refine AH h (fun c1 h=>ww ?_) (fun c1 h=>ww ?_)
 ·obtain⟨o2,ho,h⟩:=bi h
  refine AB (fun s=>s=⟨[(2,oc (dB o2))],[]⟩) ?_ ?_
  ·have h:=ho
   clear ho
   refine ww ?_
   refine Af h (fun g3 h=>ww ?_) (fun g3 h=>ww ?_)
   ·cases h
    exact eM [] rfl
   refine Af h (fun g4 h=>ww ?_) (fun g4 h=>ww ?_)
   ·cases h
    exact eM [] rfl
   cases h
   exact eM [] rfl
  rintro _ rfl
  clear ho
  refine ww ?_
  cases h
  exact eF []
 refine AH h (fun c5 h=>ww ?_) (fun c5 h=>ww ?_)
 ·obtain⟨o6,ho,h⟩:=bi h
  refine AB (fun s=>s=⟨[(2,oc (dB o6))],[]⟩) ?_ ?_
  ·have h:=ho
   clear ho
   refine ww ?_
   refine Af h (fun g7 h=>ww ?_) (fun g7 h=>ww ?_)
   ·refine Af h (fun g8 h=>ww ?_) (fun g8 h=>ww ?_)
    ·cases h
     exact eM [] rfl
    cases h
    exact eM [] rfl
   cases h
   exact eM [] rfl
  rintro _ rfl
  clear ho
  refine ww ?_
  cases h
  exact eF []
 refine AH h (fun c9 h=>ww ?_) (fun c9 h=>ww ?_)
 ·obtain⟨o10,ho,h⟩:=bi h
  refine AB (fun s=>s=⟨[(2,oc (dB o10))],[]⟩) ?_ ?_
  ·have h:=ho
   clear ho
   refine ww ?_
   refine Af h (fun g11 h=>ww ?_) (fun g11 h=>ww ?_)
   ·obtain⟨t12,ht12,h⟩:=bi h
    refine cN [] (F204_ok ht12) trivial (ww ?_)
    cases h
    exact eM [] rfl
   cases h
   exact eM [] rfl
  rintro _ rfl
  clear ho
  refine ww ?_
  cases h
  exact eF []
 obtain⟨o13,ho,h⟩:=bi h
 refine AB (fun s=>s=⟨[(1,Pz 0),(45,oc (dB o13))],[xb (AJ x0)]⟩) ?_ ?_
 ·have h:=ho
  clear ho
  refine ww ?_
  refine AH h (fun c14 h=>ww ?_) (fun c14 h=>ww ?_)
  ·cases h
   exact eM [some 0] rfl
  refine AH h (fun c15 h=>ww ?_) (fun c15 h=>ww ?_)
  ·cases h
   exact eM [some 0] rfl
  cases h
  exact eM [some 0] rfl
 rintro _ rfl
 clear ho
 refine ww ?_
 refine AE h (fun c16 h=>ww ?_) (fun c16 h=>ww ?_)
 ·obtain⟨o17,ho,h⟩:=bi h
  refine AB (fun s=>s=⟨[(2,oc (dB o17))],[]⟩) ?_ ?_
  ·have h:=ho
   clear ho
   refine ww ?_
   refine Af h (fun g18 h=>ww ?_) (fun g18 h=>ww ?_)
   ·cases h
    exact eM [] rfl
   cases h
   exact eM [] rfl
  rintro _ rfl
  clear ho
  refine ww ?_
  cases h
  exact eF []
 cases h
 exact eF []
def F112_l8(x0:ByteArray):Nat→Int→Option ((Bool) ⊕ (Unit))
 |0,_=>none
 |k+1,o8_0=>(if o8_0<(x0.size:Int)then(byI x0 o8_0).bind fun y10=>(F155 y10).bind fun t11=>(if(nb t11)=true then(some false).map Sum.inl else F112_l8 x0 k ((IntKind.i64.wrap (o8_0+1))))else some (Sum.inr (())))
def F112(x0:ByteArray):Option (Bool):=(((if x0=(⟨#[]⟩:ByteArray)then some true else(if 40<(x0.size:Int)then some true else(byI x0 0).bind fun y4=>(if y4<97 then some true else(byI x0 0).bind fun y6=>some (decide (122<y6)))))).bind fun o1=>(if o1=true then some false else((F112_l8 x0 1099511627776 0:Option ((Bool) ⊕ (Unit))).bind fun o8=>match o8 with|Sum.inl f=>some f|Sum.inr po8=>some true)))
def a112:AFn:=⟨32,[(.tmp 2)],
 (.seq (.reg [Qf 2 false])
 (.seq (.seq (.sem (.reg [Qa 4 0,
sq 5 (.bin .eql (.t 4) (kS ⟨#[]⟩)),
Qa 6 5,
Qv 7 6 false 0,
zg 8 6 false (.slen (.t 7)),
zg 9 6 false (.bin .gtr (.t 8) (kI 40)),
Qj 10 6 9,
Qa 11 10,
Qv 12 11 false 0,
zg 13 11 false (.sidx (.t 12) (kI 0)),
zg 14 11 false (.bin .lss (.t 13) (.k (.c (.d (.v (.int .u8 97)))))),
Qj 15 11 14,
Qa 16 15,
Qv 17 16 false 0,
zg 18 16 false (.sidx (.t 17) (kI 0)),
zg 19 16 false (.bin .gtr (.t 18) (.k (.c (.d (.v (.int .u8 122)))))),
Qj 20 16 19]))
 (.cond (.t 20)
 (.seq (.reg [Qf 2 false])
 .ret)
 .skip))
 (.seq (.seq (.reg [Qa 21 0,
sq 22 (.slen (.t 21)),
Qe 23 0])
 (.sem (.block 0 (.loop (.seq (.reg [Qn 24 23 22])
 (.seq (.cond (.t 24)
 .skip
 (.exit 0))
 (.seq (.block 1 (.seq (.reg [Qa 25 23,
Qa 3 25])
 (.seq (.reg [Qa 26 0,
Qa 27 3,
sq 28 (.sidx (.t 26) (.t 27)),
Qk 29 155 28,
Qq 30 29])
 (.cond (.t 30)
 (.seq (.reg [Qf 2 false])
 .ret)
 .skip))))
 (.reg [Qm 31 23 1,
Qa 23 31]))))))))
 (.seq (.reg [Qf 2 true])
 .ret))))⟩
theorem F112_ok{x0 r}(h:F112 x0=some r):An Tryz.prog 112 [.c (dS x0)] [] (AL [.c (dB r)]) []:=by
 rw[F112]at h
 refine zc a112 (by kernel_rfl) rfl (ww ?_)
 obtain⟨o1,ho,h⟩:=bi h
 refine AB (fun s=>s=⟨[(0,oc (dS x0)),(20,oc (dB o1))],[]⟩) ?_ ?_
 ·have h:=ho
  clear ho
  refine ww ?_
  refine Af h (fun g2 h=>ww ?_) (fun g2 h=>ww ?_)
  ·cases h
   exact eM [] rfl
  refine Af h (fun g3 h=>ww ?_) (fun g3 h=>ww ?_)
  ·cases h
   exact eM [] rfl
  obtain⟨y4,hy4,h⟩:=bi h
  refine Bx rfl rfl hy4 (ww ?_)
  refine Af h (fun g5 h=>ww ?_) (fun g5 h=>ww ?_)
  ·cases h
   exact eM [] rfl
  obtain⟨y6,hy6,h⟩:=bi h
  refine Bx rfl rfl hy6 (ww ?_)
  cases h
  exact eM [] rfl
 rintro _ rfl
 clear ho
 refine ww ?_
 refine AE h (fun c7 h=>ww ?_) (fun c7 h=>ww ?_)
 ·cases h
  exact eF []
 obtain⟨o8,ho,h⟩:=bi h
 refine AB (fun s=>∃po8,o8=Sum.inr po8∧s=⟨[],[]⟩) ?_ ?_
 ·have h0o8:=h
  have h:=ho
  clear ho
  refine ww ?_
  refine bL (fun j s=>∃(o8_0:Int),s=⟨[(0,oc (dS x0)),(22,oc (dI ((x0.size:Int)))),(23,oc (dI o8_0))],[]⟩∧F112_l8 x0 j o8_0=some o8) 1099511627776 [] ⟨0,rfl,h⟩ ?_
  rintro j _ ⟨o8_0,rfl,h⟩
  cases j with
  |zero=>cases(show(none:Option _)=some _ from h)
  |succ j=>
   rw[F112_l8]at h
   refine ww ?_
   refine AH h (fun c9 h=>ww ?_) (fun c9 h=>?_)
   ·obtain⟨y10,hy10,h⟩:=bi h
    refine Bx rfl rfl hy10 (ww ?_)
    obtain⟨t11,ht11,h⟩:=bi h
    refine cN [] (F155_ok ht11) trivial (ww ?_)
    refine AE h (fun c12 h=>ww ?_) (fun c12 h=>?_)
    ·obtain⟨fh0o8,hfh0o8,rfl⟩:=Option.map_eq_some_iff.1 h
     have h:=hfh0o8.trans h0o8
     cases h
     exact eF []
    ·refine ww ?_
     exact eL' j [] ⟨(IntKind.i64.wrap (o8_0+1)),rfl,h⟩ (Nat.lt_succ_self _)
   ·refine ww ?_
    cases h
    exact eM [] ⟨_,rfl,rfl⟩
 rintro _ ⟨po8,rfl,rfl⟩
 clear ho
 dsimp only at h
 refine ww ?_
 cases h
 exact eF []
def F114_l2(x0:ByteArray):Nat→Int→Option ((Bool) ⊕ (Unit))
 |0,_=>none
 |k+1,o2_0=>(if o2_0<(x0.size:Int)then(((byI x0 o2_0).bind fun y5=>(F155 y5).bind fun t6=>(if(nb t6)=true then some true else(byI x0 o2_0).bind fun y8=>some (decide (y8=47)))).bind fun o4=>(if o4=true then(some false).map Sum.inl else F114_l2 x0 k ((IntKind.i64.wrap (o2_0+1)))))else some (Sum.inr (())))
def F114(x0:ByteArray):Option (Bool):=(if 40<(x0.size:Int)then some false else((F114_l2 x0 1099511627776 0:Option ((Bool) ⊕ (Unit))).bind fun o2=>match o2 with|Sum.inl f=>some f|Sum.inr po2=>some true))
def a114:AFn:=⟨24,[(.tmp 2)],
 (.seq (.reg [Qf 2 false])
 (.seq (.seq (.reg [Qa 4 0,
sq 5 (.slen (.t 4)),
sq 6 (.bin .gtr (.t 5) (kI 40))])
 (.cond (.t 6)
 (.seq (.reg [Qf 2 false])
 .ret)
 .skip))
 (.seq (.seq (.reg [Qa 7 0,
sq 8 (.slen (.t 7)),
Qe 9 0])
 (.sem (.block 0 (.loop (.seq (.reg [Qn 10 9 8])
 (.seq (.cond (.t 10)
 .skip
 (.exit 0))
 (.seq (.block 1 (.seq (.reg [Qa 11 9,
Qa 3 11])
 (.seq (.sem (.reg [Qa 12 0,
Qa 13 3,
sq 14 (.sidx (.t 12) (.t 13)),
Qk 15 155 14,
Qq 16 15,
Qa 17 16,
Qv 18 17 false 0,
Qv 19 17 false 3,
zg 20 17 false (.sidx (.t 18) (.t 19)),
zg 21 17 false (.bin .eql (.t 20) (.k (.c (.d (.v (.int .u8 47)))))),
Qj 22 17 21]))
 (.cond (.t 22)
 (.seq (.reg [Qf 2 false])
 .ret)
 .skip))))
 (.reg [Qm 23 9 1,
Qa 9 23]))))))))
 (.seq (.reg [Qf 2 true])
 .ret))))⟩
theorem F114_ok{x0 r}(h:F114 x0=some r):An Tryz.prog 114 [.c (dS x0)] [] (AL [.c (dB r)]) []:=by
 rw[F114]at h
 refine zc a114 (by kernel_rfl) rfl (ww ?_)
 refine AH h (fun c1 h=>ww ?_) (fun c1 h=>ww ?_)
 ·cases h
  exact eF []
 obtain⟨o2,ho,h⟩:=bi h
 refine AB (fun s=>∃po2,o2=Sum.inr po2∧s=⟨[],[]⟩) ?_ ?_
 ·have h0o2:=h
  have h:=ho
  clear ho
  refine ww ?_
  refine bL (fun j s=>∃(o2_0:Int),s=⟨[(0,oc (dS x0)),(8,oc (dI ((x0.size:Int)))),(9,oc (dI o2_0))],[]⟩∧F114_l2 x0 j o2_0=some o2) 1099511627776 [] ⟨0,rfl,h⟩ ?_
  rintro j _ ⟨o2_0,rfl,h⟩
  cases j with
  |zero=>cases(show(none:Option _)=some _ from h)
  |succ j=>
   rw[F114_l2]at h
   refine ww ?_
   refine AH h (fun c3 h=>ww ?_) (fun c3 h=>?_)
   ·obtain⟨o4,ho,h⟩:=bi h
    refine AB (fun s=>s=⟨[(0,oc (dS x0)),(8,oc (dI ((x0.size:Int)))),(9,oc (dI o2_0)),(22,oc (dB o4))],[]⟩) ?_ ?_
    ·have h:=ho
     clear ho
     refine ww ?_
     obtain⟨y5,hy5,h⟩:=bi h
     refine Bx rfl rfl hy5 (ww ?_)
     obtain⟨t6,ht6,h⟩:=bi h
     refine cN [] (F155_ok ht6) trivial (ww ?_)
     refine AM h (fun g7 h=>ww ?_) (fun g7 h=>?_)
     ·cases h
      exact eM [] rfl
     ·refine ww ?_
      obtain⟨y8,hy8,h⟩:=bi h
      refine Bx rfl rfl hy8 (ww ?_)
      cases h
      exact eM [] rfl
    ·rintro _ rfl
     clear ho
     refine ww ?_
     refine AE h (fun c9 h=>ww ?_) (fun c9 h=>?_)
     ·obtain⟨fh0o2,hfh0o2,rfl⟩:=Option.map_eq_some_iff.1 h
      have h:=hfh0o2.trans h0o2
      cases h
      exact eF []
     ·refine ww ?_
      exact eL' j [] ⟨(IntKind.i64.wrap (o2_0+1)),rfl,h⟩ (Nat.lt_succ_self _)
   ·refine ww ?_
    cases h
    exact eM [] ⟨_,rfl,rfl⟩
 rintro _ ⟨po2,rfl,rfl⟩
 clear ho
 dsimp only at h
 refine ww ?_
 cases h
 exact eF []
def F33(x0:Meta):Option (ByteArray):=(F59 x0.Kind x0.Namespace x0.Name).bind fun t1=>some t1
def a33:AFn:=⟨10,[(.tmp 2)],
 (.seq (.reg [Qg 1 0,
sq 2 (.mv (kS ⟨#[]⟩))])
 (.seq (.reg [Qb 3 0 1,
Qd 4 3,
Qb 5 1 1,
Qd 6 5,
Qb 7 2 1,
Qd 8 7,
sq 9 (.call 59 [(.t 4),(.t 6),(.t 8)]),
Qa 2 9])
 .ret))⟩
theorem F33_ok{x0 r}(h:F33 x0=some r):An Tryz.prog 33 [.agg (CT x0)] [] (AL [.c (dS r)]) []:=by
 rw[F33]at h
 refine zc a33 (by kernel_rfl) rfl (ww ?_)
 obtain⟨t1,ht1,h⟩:=bi h
 refine cN [] (F59_ok ht1) trivial (ww ?_)
 cases h
 exact eF []
def Tryz.Hp:Go.Shelf.Ren:=⟨fun|10=>64|n=>n,fun|33=>115|23=>79|0=>0|4=>4|26=>9|3=>44|n=>n,fun|n=>n⟩
theorem Tryz.Rg:Go.Proofs.SlLaysZ.n10 Tryz.prog Tryz.Hp:={
 mixed:=by kernel_rfl
 f10:=⟨Tryz.f64.name,by decide,Tryz.func64.trans (congrArg some (by kernel_rfl))⟩
 t0:=Tryz.underlying0
 a0:=Tryz.isAgg0
 z0:=Tryz.sizeOf0
 v0:=Tryz.zeroValue0
 t4:=Tryz.underlying4
 a4:=Tryz.isAgg4
 z4:=Tryz.sizeOf4
 v4:=Tryz.zeroValue4
 t23:=Tryz.underlying79
 a23:=Tryz.isAgg79
 z23:=Tryz.sizeOf79
 v23:=Tryz.zeroValue79
 t26:=Tryz.underlying9
 a26:=Tryz.isAgg9
 z26:=Tryz.sizeOf9
 v26:=Tryz.zeroValue9
 t33:=Tryz.underlying115
 a33:=Tryz.isAgg115
 z33:=Tryz.sizeOf115
 v33:=Tryz.zeroValue115}
theorem F35_64_ok{b1:List (ByteArray×Object)}{r:List ByteArray}(h:KR (b1.map Prod.fst)=some r):An Tryz.prog 35 [.c (.fn 64 [(0,0)])] [xb [.mref 1],some (.map (eMs Value.string Ad b1))] (AL [.c (.own 2 0 0 r.length none)]) [xb [.mref 1],some (.map (eMs Value.string Ad b1)),some (.arr 0 1 (r.map eS))]:=OC (ρ:=Tryz.Ho) (ρ2:=Tryz.Hp) (ρ3:=Tryz.JB) Tryz.Rf Tryz.Rg Tryz.U2 rfl (by kernel_rfl) rfl rfl (enters_of Tryz.func63 (by kernel_rfl) rfl) (enters_of Tryz.func64 (by kernel_rfl) rfl) (by simp only[eMs,List.map_map];rfl) h
def F81_l2:List Ah→Nat→(List Ah)→Option ((List Ah))
 |[],o2_1,o2_0=>some o2_0
 |xo2::xs,o2_1,o2_0=>(rdI o2_0 ((o2_1:Int))).bind fun y4=>(BI y4.Aq).bind fun t5=>(rdI o2_0 ((o2_1:Int))).bind fun y6=>F81_l2 xs (o2_1+1) ((o2_0.set ((o2_1:Int)).toNat ((⟨y6.Key,y6.Op,t5⟩:Ah))))
def F81(x0:Filter):Option ((List Ah)):=(BI x0.Selector).bind fun t1=>(((ck (0≤t1.length∧t1.length≤4294967290)).bind fun u7=>F81_l2 t1 0 t1).bind fun o2=>some o2)
def a81:AFn:=⟨27,[(.cell 2 (some 3))],
 (.seq (.reg [Qg 1 0,
sq 2 (.zbox [dS ⟨#[]⟩,dS ⟨#[]⟩,dN])])
 (.seq (.reg [Qb 5 2 1,
Qd 6 5,
Qk 7 60 6,
Qb 8 2 1,
su (.store 1 (.t 8) (.t 7))])
 (.seq (.seq (.reg [Qb 9 2 1,
Qd 10 9,
Qh 11 10,
Qe 12 0])
 (.sem (.block 0 (.loop (.seq (.reg [Qn 13 12 11])
 (.seq (.cond (.t 13)
 .skip
 (.exit 0))
 (.seq (.block 1 (.seq (.reg [Qa 14 12,
Qp 15 3 10 12,
Qc 16 3 15,
sq 4 (.zbox [dS ⟨#[]⟩,dI 0,dN]),
Qa 3 14,
su (.store 3 (.t 4) (.t 16))])
 (.regd [Qb 17 2 1,
sd 18 (.load none (.t 17)) [0],
Qa 19 3,
Qb 20 2 4,
sd 21 (.load none (.t 20)) [3],
zl 22 (.call 61 [(.t 21)]) [3,4] [1,17],
sd 23 (.indexA 3 (.t 18) (.t 19)) [0,1,2,3,4,5],
sd 24 (.fieldA 2 (.t 23)) [0,1,2,3,4,5,6],
⟨none,none,.store 1 (.t 24) (.t 22),[0,1,2,3,4,5,6,7],(.lone [])⟩])))
 (.reg [Qm 25 12 1,
Qa 12 25]))))))))
 (.seq (.reg [Qc 26 3 1,
⟨none,none,.store 3 (.t 2) (.t 26),[],(.lone [1])⟩])
 .ret))))⟩
theorem F81_ok{x0 r}(h:F81 x0=some r):An Tryz.prog 81 [.agg (Bj x0)] [] (AL [.agg [dS x0.Kind,dS x0.Namespace,.own 0 0 0 (r.length) none]]) [some (.arr 0 3 (r.map Al))]:=by
 rw[F81]at h
 refine zc a81 (by kernel_rfl) rfl (ww ?_)
 obtain⟨t1,ht1,h⟩:=bi h
 refine cN [] (F60_ok ht1) trivial (ww ?_)
 obtain⟨o2,ho,h⟩:=bi h
 refine AB (fun s=>s=⟨[(1,Pz 0),(2,Pz 2)],[xb [dS x0.Kind,dS x0.Namespace,.own 1 0 0 (o2.length) none],some (.arr 0 3 (o2.map Al)),xb [dS ((⟨#[]⟩:ByteArray)),dS ((⟨#[]⟩:ByteArray)),dN]]⟩) ?_ ?_
 ·have h:=ho
  clear ho
  obtain⟨_,hk,h⟩:=bi h
  have hk:=AS hk
  refine ww ?_
  refine bL (fun j s=>∃(o2_1:Nat) (o2_0:List Ah),(o2_1≤t1.length∧j=t1.length-o2_1)∧s=⟨[(1,Pz 0),(2,Pz 2),(10,oc (.own 1 0 0 (o2_0.length) none)),(11,oc (dI ((t1.length:Int)))),(12,oc (dI ((o2_1:Int))))],[xb [dS x0.Kind,dS x0.Namespace,.own 1 0 0 (o2_0.length) none],some (.arr 0 3 (o2_0.map Al)),xb [dS ((⟨#[]⟩:ByteArray)),dS ((⟨#[]⟩:ByteArray)),dN]]⟩∧F81_l2 (t1.drop o2_1) o2_1 o2_0=some o2) (t1.length-0) [some 0,some 2,some 1] ⟨0,t1,⟨hk.1,rfl⟩,rfl,h⟩ ?_
  rintro _ _ ⟨o2_1,o2_0,⟨hi,rfl⟩,rfl,h⟩
  refine ww ?_
  refine Bg (fun c3=>?_) (fun c3=>?_)
  ·obtain⟨xo2,hxo2,hd⟩:=A5 (show(o2_1:Int)<(t1.length:Int)from c3)
   rw[hd,F81_l2]at h
   refine ww ?_
   obtain⟨y4,hy4,h⟩:=bi h
   refine Cx (enc:=Al) (xs:=o2_0) rfl rfl rfl (by first|rfl|simp only[List.length_set]|exact(AN (AX (by assumption))).symm) hy4 (ww ?_)
   refine Es.rd (Bk hy4).2.1 (ww ?_)
   obtain⟨t5,ht5,h⟩:=bi h
   refine cN [] (F61_ok ht5) trivial (ww ?_)
   obtain⟨y6,hy6,h⟩:=bi h
   refine Cx (enc:=Al) (xs:=o2_0) rfl rfl rfl (by first|rfl|simp only[List.length_set]|exact(AN (AX (by assumption))).symm) hy6 (ww ?_)
   refine Fp.rd (y':=(⟨y6.Key,y6.Op,t5⟩:Ah)) (Bk hy6).2.1 (by simp[EE.down]) (by first|rfl|(simp only[BB];rfl)) (ww ?_)
   rw[AW (by omega)]
   exact eL' (t1.length-(o2_1+1)) [some 0,some 1,some 2] ⟨o2_1+1,(o2_0.set ((o2_1:Int)).toNat ((⟨y6.Key,y6.Op,t5⟩:Ah))),⟨by omega,rfl⟩,rfl,h⟩ (by omega)
  rw[A6 (show¬((o2_1:Int)<(t1.length:Int))from c3),F81_l2]at h
  refine ww ?_
  cases h
  exact eM [some 0,some 1,some 2] rfl
 rintro _ rfl
 clear ho
 refine ww ?_
 cases h
 exact eF [some 1]
def F173(x0:ByteArray)(x1:ByteArray):Option (Int):=(XR x0 x1).bind fun t1=>some t1
def a173:AFn:=⟨8,[(.tmp 4)],
 (.seq (.reg [Qe 4 0])
 (.seq (.reg [Qa 5 0,
Qa 6 1,
Ql 7 196 5 6,
Qa 4 7])
 .ret))⟩
theorem F173_ok{x0 x1 r}(h:F173 x0 x1=some r):An Tryz.prog 173 [.c (dS x0),.c (dS x1)] [] (AL [.c (dI r)]) []:=by
 rw[F173]at h
 refine zc a173 (by kernel_rfl) rfl (ww ?_)
 obtain⟨t1,ht1,h⟩:=bi h
 refine cN [] (F196_ok ht1) trivial (ww ?_)
 cases h
 exact eF []
theorem a184_ok:afn Tryz.prog 184=some (Ih 23 352 [.v (.string ⟨#[]⟩),.v (.string ⟨#[]⟩),.v (.string ⟨#[]⟩),.v (.int .i64 0),.v (.int .i64 0),.v (.int .i64 0),.v (.int .i64 0),.v (.bool false),.v (.int .i64 0),.sl [],.sl [],.sl [],.sl [],.v (.int .i64 0),.v (.int .i64 0),.v (.string ⟨#[]⟩),.sl [],.sl [],.v (.int .i64 0),.v (.int .i64 0),.v (.string ⟨#[]⟩),.sl [],.sl []] 200 201):=by kernel_rfl
theorem F184_ok{x0 r:List Object}{i:Int}{x:Object}{e0 e1:Nat}(h:Tq x0 i x=some r):An Tryz.prog 184 [.c (.own 0 e0 0 x0.length none),aI i,.c (.own 1 e1 0 [x].length none)] [some (.arr e0 23 (x0.map Ad)),some (.arr e1 23 ([x].map Ad))] (AL [.c (.own 0 (e0+1) 0 r.length none)]) [some (.arr (e0+1) 23 (r.map Ad)),some (.arr e1 23 ([x].map Ad))]:=VI a184_ok Yi (fun _=>rfl) h
def F180_l1(x0:(List AI)):List AI→Nat→Option ((Bool) ⊕ (Unit))
 |[],o1_0=>some (Sum.inr (()))
 |xo1::xs,o1_0=>(((F176 xo1.Name).bind fun t4=>(if(nb t4)=true then some true else(if 0<(o1_0:Int)then(rdI x0 ((IntKind.i64.wrap (((o1_0:Int))-1)))).bind fun y7=>(if(nb (Op.bytesLess y7.Name.toList xo1.Name.toList))=true then some true else(if(xo1.Ae.length:Int)<1 then some true else(if 600<(xo1.Ae.length:Int)then some true else(F197 xo1.Ae).bind fun t11=>some (nb t11))))else(if(xo1.Ae.length:Int)<1 then some true else(if 600<(xo1.Ae.length:Int)then some true else(F197 xo1.Ae).bind fun t14=>some (nb t14)))))).bind fun o3=>(if o3=true then(some false).map Sum.inl else F180_l1 x0 xs (o1_0+1)))
def F180(x0:(List AI)):Option (Bool):=(((ck (0≤x0.length∧x0.length≤4294967290)).bind fun u16=>F180_l1 x0 x0 0:Option ((Bool) ⊕ (Unit))).bind fun o1=>match o1 with|Sum.inl f=>some f|Sum.inr po1=>some (decide ((x0.length:Int)≤16)))
def a180:AFn:=⟨53,[(.tmp 2)],
 (.seq (.reg [Qf 2 false])
 (.seq (.seq (.reg [Qa 5 0,
Qh 6 5,
Qe 7 0])
 (.sem (.block 0 (.loop (.seq (.reg [Qn 8 7 6])
 (.seq (.cond (.t 8)
 .skip
 (.exit 0))
 (.seq (.block 1 (.seq (.reg [Qa 9 7,
Qp 10 2 5 7,
Qc 11 2 10,
sq 4 (.zbox [dS ⟨#[]⟩,dN]),
Qa 3 9,
su (.store 2 (.t 4) (.t 11))])
 (.seq (.sem (.regd [Qb 12 0 4,
sd 13 (.load none (.t 12)) [0],
zl 14 (.call 176 [(.t 13)]) [0,1] [],
sd 15 (.not (.t 14)) [0,1,2],
sd 16 (.mv (.t 15)) [0,1,2,3],
⟨(some 17),(some (16,false)),.mv (.t 3),[0,1,2,3,4],(.new [])⟩,
⟨(some 18),(some (16,false)),.bin .gtr (.t 17) (kI 0),[0,1,2,3,4,5],(.new [])⟩,
⟨(some 19),(some (16,false)),.mv (.t 18),[0,1,2,3,4,5,6],(.new [])⟩,
⟨(some 20),(some (19,true)),.mv (.t 0),[0,1,2,3,4,5,6,7],(.new [])⟩,
⟨(some 21),(some (19,true)),.mv (.t 3),[0,1,2,3,4,5,6,7],(.new [])⟩,
⟨(some 22),(some (19,true)),.bin .sub (.t 21) (kI 1),[0,1,2,3,4,5,6,7,9],(.new [])⟩,
⟨(some 23),(some (19,true)),.indexA 2 (.t 20) (.t 22),[0,1,2,3,4,5,6,7,8,9,10],(.new [])⟩,
⟨(some 24),(some (19,true)),.fieldA 0 (.t 23),[0,1,2,3,4,5,6,7,8,9,10,11],(.new [])⟩,
⟨(some 25),(some (19,true)),.load none (.t 24),[0,1,2,3,4,5,6,7,8,9,10,11,12],(.new [])⟩,
⟨(some 26),(some (19,true)),.fieldA 0 (.t 4),[0,1,2,3,4,5,6,7],(.new [])⟩,
⟨(some 27),(some (19,true)),.load none (.t 26),[0,1,2,3,4,5,6,7,14],(.new [])⟩,
⟨(some 28),(some (19,true)),.bin .geq (.t 25) (.t 27),[0,1,2,3,4,5,6,7,8,9,10,11,12,13,14,15],(.new [])⟩,
⟨(some 29),(some (16,false)),.pick (.t 19) (.t 28) (kB false),[0,1,2,3,4,5,6,7,8,9,10,11,12,13,14,15,16],(.lone [])⟩,
zl 30 (.pick (.t 16) (kB true) (.t 29)) [0,1,2,3,4,5,6,7,8,9,10,11,12,13,14,15,16,17] [],
sd 31 (.mv (.t 30)) [0,1,2,3,4,5,6,7,8,9,10,11,12,13,14,15,16,17,18],
⟨(some 32),(some (31,false)),.fieldA 1 (.t 4),[0,1,2,3,4,5,6,7,8,9,10,11,12,13,14,15,16,17,18,19],(.new [])⟩,
⟨(some 33),(some (31,false)),.load none (.t 32),[0,1,2,3,4,5,6,7,8,9,10,11,12,13,14,15,16,17,18,19,20],(.new [])⟩,
⟨(some 34),(some (31,false)),.len (.t 33),[0,1,2,3,4,5,6,7,8,9,10,11,12,13,14,15,16,17,18,19,20,21],(.new [])⟩,
⟨(some 35),(some (31,false)),.bin .lss (.t 34) (kI 1),[0,1,2,3,4,5,6,7,8,9,10,11,12,13,14,15,16,17,18,19,20,21,22],(.new [])⟩,
zl 36 (.pick (.t 31) (kB true) (.t 35)) [0,1,2,3,4,5,6,7,8,9,10,11,12,13,14,15,16,17,18,19,20,21,22,23] [],
sd 37 (.mv (.t 36)) [0,1,2,3,4,5,6,7,8,9,10,11,12,13,14,15,16,17,18,19,20,21,22,23,24],
⟨(some 38),(some (37,false)),.fieldA 1 (.t 4),[0,1,2,3,4,5,6,7,8,9,10,11,12,13,14,15,16,17,18,19,20,21,22,23,24,25],(.new [])⟩,
⟨(some 39),(some (37,false)),.load none (.t 38),[0,1,2,3,4,5,6,7,8,9,10,11,12,13,14,15,16,17,18,19,20,21,22,23,24,25,26],(.new [])⟩,
⟨(some 40),(some (37,false)),.len (.t 39),[0,1,2,3,4,5,6,7,8,9,10,11,12,13,14,15,16,17,18,19,20,21,22,23,24,25,26,27],(.new [])⟩,
⟨(some 41),(some (37,false)),.bin .gtr (.t 40) (kI 600),[0,1,2,3,4,5,6,7,8,9,10,11,12,13,14,15,16,17,18,19,20,21,22,23,24,25,26,27,28],(.new [])⟩,
zl 42 (.pick (.t 37) (kB true) (.t 41)) [0,1,2,3,4,5,6,7,8,9,10,11,12,13,14,15,16,17,18,19,20,21,22,23,24,25,26,27,28,29] [],
sd 43 (.mv (.t 42)) [0,1,2,3,4,5,6,7,8,9,10,11,12,13,14,15,16,17,18,19,20,21,22,23,24,25,26,27,28,29,30],
⟨(some 44),(some (43,false)),.fieldA 1 (.t 4),[0,1,2,3,4,5,6,7,8,9,10,11,12,13,14,15,16,17,18,19,20,21,22,23,24,25,26,27,28,29,30,31],(.new [])⟩,
⟨(some 45),(some (43,false)),.load none (.t 44),[0,1,2,3,4,5,6,7,8,9,10,11,12,13,14,15,16,17,18,19,20,21,22,23,24,25,26,27,28,29,30,31,32],(.new [])⟩,
⟨(some 46),(some (43,false)),.call 197 [(.t 45)],[0,1,2,3,4,5,6,7,8,9,10,11,12,13,14,15,16,17,18,19,20,21,22,23,24,25,26,27,28,29,30,31,32,33],(.lone [])⟩,
⟨(some 47),(some (43,false)),.not (.t 46),[0,1,2,3,4,5,6,7,8,9,10,11,12,13,14,15,16,17,18,19,20,21,22,23,24,25,26,27,28,29,30,31,32,33,34],(.new [])⟩,
zl 48 (.pick (.t 43) (kB true) (.t 47)) [0,1,2,3,4,5,6,7,8,9,10,11,12,13,14,15,16,17,18,19,20,21,22,23,24,25,26,27,28,29,30,31,32,33,34,35] []]))
 (.cond (.t 48)
 (.seq (.reg [Qf 2 false])
 .ret)
 .skip))))
 (.reg [Qm 49 7 1,
Qa 7 49]))))))))
 (.seq (.reg [Qa 50 0,
Qh 51 50,
sq 52 (.bin .leq (.t 51) (kI 16)),
Qa 2 52])
 .ret)))⟩
theorem F180_ok{x0 r}(h:F180 x0=some r):An Tryz.prog 180 [.c (dM (x0.map AG))] [] (AL [.c (dB r)]) []:=by
 rw[F180]at h
 refine zc a180 (by kernel_rfl) rfl (ww ?_)
 obtain⟨o1,ho,h⟩:=bi h
 refine AB (fun s=>∃po1,o1=Sum.inr po1∧s=⟨[(0,oc (dM (x0.map AG)))],[]⟩) ?_ ?_
 ·have h0o1:=h
  have h:=ho
  clear ho
  obtain⟨_,hk,h⟩:=bi h
  have hk:=AS hk
  refine ww ?_
  refine bL (fun j s=>∃(o1_0:Nat),(o1_0≤x0.length∧j=x0.length-o1_0)∧s=⟨[(0,oc (dM (x0.map AG))),(5,oc (dM (x0.map AG))),(6,oc (dI ((x0.length:Int)))),(7,oc (dI ((o1_0:Int))))],[]⟩∧F180_l1 x0 (x0.drop o1_0) o1_0=some o1) (x0.length-0) [] ⟨0,⟨hk.1,rfl⟩,rfl,h⟩ ?_
  rintro _ _ ⟨o1_0,⟨hi,rfl⟩,rfl,h⟩
  refine ww ?_
  refine Bg (fun c2=>?_) (fun c2=>?_)
  ·obtain⟨xo1,hxo1,hd⟩:=A5 (show(o1_0:Int)<(x0.length:Int)from c2)
   rw[hd,F180_l1]at h
   refine ww ?_
   refine Az (enc:=AG) (xs:=x0) rfl rfl hxo1 rfl (ww ?_)
   obtain⟨o3,ho,h⟩:=bi h
   refine AB (fun s=>s=⟨[(0,oc (dM (x0.map AG))),(5,oc (dM (x0.map AG))),(6,oc (dI ((x0.length:Int)))),(7,oc (dI ((o1_0:Int)))),(48,oc (dB o3))],[]⟩) ?_ ?_
   ·have h:=ho
    clear ho
    refine ww ?_
    obtain⟨t4,ht4,h⟩:=bi h
    refine cN [] (F176_ok ht4) trivial (ww ?_)
    refine Cm h (fun g5 h=>ww ?_) (fun g5 h=>ww ?_)
    ·cases h
     exact eM [] rfl
    refine B4 h (fun g6 h=>ww ?_) (fun g6 h=>ww ?_)
    ·obtain⟨y7,hy7,h⟩:=bi h
     refine Az (enc:=AG) (xs:=x0) rfl rfl hy7 rfl (ww ?_)
     refine Cm h (fun g8 h=>ww ?_) (fun g8 h=>ww ?_)
     ·cases h
      exact eM [] rfl
     refine B4 h (fun g9 h=>ww ?_) (fun g9 h=>ww ?_)
     ·cases h
      exact eM [] rfl
     refine B4 h (fun g10 h=>ww ?_) (fun g10 h=>ww ?_)
     ·cases h
      exact eM [] rfl
     obtain⟨t11,ht11,h⟩:=bi h
     refine cN [] (F197_ok ht11) trivial (ww ?_)
     cases h
     exact eM [] rfl
    refine B4 h (fun g12 h=>ww ?_) (fun g12 h=>ww ?_)
    ·cases h
     exact eM [] rfl
    refine B4 h (fun g13 h=>ww ?_) (fun g13 h=>ww ?_)
    ·cases h
     exact eM [] rfl
    obtain⟨t14,ht14,h⟩:=bi h
    refine cN [] (F197_ok ht14) trivial (ww ?_)
    cases h
    exact eM [] rfl
   rintro _ rfl
   clear ho
   refine ww ?_
   refine AE h (fun c15 h=>ww ?_) (fun c15 h=>ww ?_)
   ·obtain⟨fh0o1,hfh0o1,rfl⟩:=Option.map_eq_some_iff.1 h
    have h:=hfh0o1.trans h0o1
    cases h
    exact eF []
   rw[AW (by omega)]
   exact eL' (x0.length-(o1_0+1)) [] ⟨o1_0+1,⟨by omega,rfl⟩,rfl,h⟩ (by omega)
  rw[A6 (show¬((o1_0:Int)<(x0.length:Int))from c2),F180_l1]at h
  refine ww ?_
  cases h
  exact eM [] ⟨_,rfl,rfl⟩
 rintro _ ⟨po1,rfl,rfl⟩
 clear ho
 dsimp only at h
 refine ww ?_
 cases h
 exact eF []
def F186(x0:Int)(x1:Int):Option (Int):=(F202 x0).bind fun t1=>(F202 x1).bind fun t2=>(if¬(True)then(if¬(True)then some 0 else some ((-1)))else(if¬(True)then some 1 else(if x0<x1 then some ((-1))else(if x1<x0 then some 1 else some 0))))
def a186:AFn:=⟨20,[(.tmp 4)],
 (.seq (.reg [Qe 4 0])
 (.seq (.reg [Qa 7 0,
Qk 8 202 7,
Qa 5 8])
 (.seq (.reg [Qa 9 1,
Qk 10 202 9,
Qa 6 10])
 (.seq (.seq (.reg [Qa 11 5])
 (.cond (.t 11)
 (.seq (.seq (.reg [Qa 12 6])
 (.cond (.t 12)
 (.seq (.reg [Qe 4 0])
 .ret)
 .skip))
 (.seq (.reg [sq 4 (.mv (kI (-1)))])
 .ret))
 .skip))
 (.seq (.seq (.reg [Qa 13 6])
 (.cond (.t 13)
 (.seq (.reg [Qe 4 1])
 .ret)
 .skip))
 (.seq (.seq (.reg [Qa 14 0,
Qa 15 1,
Qn 16 14 15])
 (.cond (.t 16)
 (.seq (.reg [sq 4 (.mv (kI (-1)))])
 .ret)
 .skip))
 (.seq (.seq (.reg [Qa 17 0,
Qa 18 1,
sq 19 (.bin .gtr (.t 17) (.t 18))])
 (.cond (.t 19)
 (.seq (.reg [Qe 4 1])
 .ret)
 .skip))
 (.seq (.reg [Qe 4 0])
 .ret))))))))⟩
theorem F186_ok{x0 x1 r}(h:F186 x0 x1=some r):An Tryz.prog 186 [.c (dI x0),.c (dI x1)] [] (AL [.c (dI r)]) []:=by
 rw[F186]at h
 refine zc a186 (by kernel_rfl) rfl (ww ?_)
 obtain⟨t1,ht1,h⟩:=bi h
 refine cN [] (F202_ok ht1) trivial (ww ?_)
 obtain⟨t2,ht2,h⟩:=bi h
 refine cN [] (F202_ok ht2) trivial (ww ?_)
 refine AH h (fun c3 h=>ww ?_) (fun c3 h=>ww ?_)
 ·refine AH h (fun c4 h=>ww ?_) (fun c4 h=>ww ?_)
  ·cases h
   exact eF []
  cases h
  exact eF []
 refine AH h (fun c5 h=>ww ?_) (fun c5 h=>ww ?_)
 ·cases h
  exact eF []
 refine AH h (fun c6 h=>ww ?_) (fun c6 h=>ww ?_)
 ·cases h
  exact eF []
 refine AH h (fun c7 h=>ww ?_) (fun c7 h=>ww ?_)
 ·cases h
  exact eF []
 cases h
 exact eF []
def F72_l8(rc153:Ab→Ab→Option (Int))(x0:Ab)(x1:Ab):Nat→Int→Int→Option (Int)
 |0,_,_=>none
 |k+1,o8_0,o8_1=>(((if o8_1<(x0.At.length:Int)then(if o8_1<(x1.At.length:Int)then some (decide (o8_0=0))else some false)else some false)).bind fun o9=>(if o9=true then(rdI x0.At o8_1).bind fun y13=>(rdI x1.At o8_1).bind fun y14=>(rc153 y13 y14).bind fun t15=>F72_l8 rc153 x0 x1 k t15 ((IntKind.i64.wrap (o8_1+1)))else some o8_0))
def F72_l19(rc153:Ab→Ab→Option (Int))(x0:Ab)(x1:Ab):Nat→Int→Int→Option (Int)
 |0,_,_=>none
 |k+1,o19_0,o19_1=>(((if o19_1<(x0.Ae.length:Int)then(if o19_1<(x1.Ae.length:Int)then some (decide (o19_0=0))else some false)else some false)).bind fun o20=>(if o20=true then(((rdI x0.Ae o19_1).bind fun y25=>(rdI x1.Ae o19_1).bind fun y26=>(F101 (Op.bytesLess y25.Name.toList y26.Name.toList) (nb (Op.bytesLess y25.Name.toList y26.Name.toList||decide (y25.Name=y26.Name)))).bind fun t27=>(if t27=0 then(rc153 y25.V y26.V).bind fun t29=>some t29 else some t27)).bind fun o24=>F72_l19 rc153 x0 x1 k o24 ((IntKind.i64.wrap (o19_1+1))))else some o19_0))
def F72(rc153:Ab→Ab→Option (Int))(x0:Ab)(x1:Ab):Option (Int):=(F101 (decide (x0.Kind<x1.Kind)) (decide (x1.Kind<x0.Kind))).bind fun t1=>(((if t1=0 then(F101 (decide (x0.N<x1.N)) (decide (x1.N<x0.N))).bind fun t4=>some t4 else some t1)).bind fun o2=>(((if o2=0 then(F101 (Op.bytesLess x0.S.toList x1.S.toList) (nb (Op.bytesLess x0.S.toList x1.S.toList||decide (x0.S=x1.S)))).bind fun t7=>some t7 else some o2)).bind fun o5=>((F72_l8 rc153 x0 x1 1099511627776 o5 0).bind fun o8=>(((if o8=0 then(F101 (decide ((x0.At.length:Int)<(x1.At.length:Int))) (decide ((x1.At.length:Int)<(x0.At.length:Int)))).bind fun t18=>some t18 else some o8)).bind fun o16=>((F72_l19 rc153 x0 x1 1099511627776 o16 0).bind fun o19=>(if o19=0 then(F101 (decide ((x0.Ae.length:Int)<(x1.Ae.length:Int))) (decide ((x1.Ae.length:Int)<(x0.Ae.length:Int)))).bind fun t31=>some t31 else some o19))))))
def a72:AFn:=⟨169,[(.tmp 4)],
 (.seq (.reg [Qg 2 0,
Qg 3 1,
Qe 4 0])
 (.seq (.reg [Qb 8 0 2,
Qd 9 8,
Qb 10 0 3,
Qd 11 10,
Qn 12 9 11,
Qb 13 0 2,
Qd 14 13,
Qb 15 0 3,
Qd 16 15,
sq 17 (.bin .gtr (.t 14) (.t 16)),
Ql 18 101 12 17,
Qa 5 18])
 (.seq (.sem (.seq (.reg [Qa 19 5,
Qr 20 19 0])
 (.cond (.t 20)
 (.reg [Qb 21 1 2,
Qd 22 21,
Qb 23 1 3,
Qd 24 23,
Qn 25 22 24,
Qb 26 1 2,
Qd 27 26,
Qb 28 1 3,
Qd 29 28,
sq 30 (.bin .gtr (.t 27) (.t 29)),
Ql 31 101 25 30,
Qa 5 31])
 .skip)))
 (.seq (.sem (.seq (.reg [Qa 32 5,
Qr 33 32 0])
 (.cond (.t 33)
 (.reg [Qb 34 2 2,
Qd 35 34,
Qb 36 2 3,
Qd 37 36,
Qn 38 35 37,
Qb 39 2 2,
Qd 40 39,
Qb 41 2 3,
Qd 42 41,
sq 43 (.bin .gtr (.t 40) (.t 42)),
Ql 44 101 38 43,
Qa 5 44])
 .skip)))
 (.seq (.seq (.reg [Qe 6 0])
 (.sem (.block 0 (.loop (.seq (.seq (.sem (.reg [Qa 45 6,
Qb 46 3 2,
Qd 47 46,
Qh 48 47,
Qn 49 45 48,
Qa 50 49,
Qv 51 50 true 6,
Qs 52 50 true 3 3,
Qt 53 50 true 52,
zg 54 50 true (.len (.t 53)),
zg 55 50 true (.bin .lss (.t 51) (.t 54)),
Qi 56 50 55,
Qa 57 56,
Qv 58 57 true 5,
zg 59 57 true (.bin .eql (.t 58) (kI 0)),
Qi 60 57 59]))
 (.cond (.t 60)
 .skip
 (.exit 0)))
 (.seq (.block 1 (.regd [Qb 63 3 2,
sd 64 (.load none (.t 63)) [0],
Qa 65 6,
sd 66 (.indexA 5 (.t 64) (.t 65)) [0,1,2],
sd 67 (.load (some 5) (.t 66)) [0,1,2,3],
Qb 68 3 3,
sd 69 (.load none (.t 68)) [5],
Qa 70 6,
sd 71 (.indexA 5 (.t 69) (.t 70)) [5,6,7],
sd 72 (.load (some 5) (.t 71)) [5,6,7,8],
zl 73 (.call 72 [(.t 67),(.t 72)]) [0,1,2,3,4,5,6,7,8,9] [],
sd 5 (.mv (.t 73)) [0,1,2,3,4,5,6,7,8,9,10]]))
 (.reg [Qa 61 6,
Qm 62 61 1,
Qa 6 62])))))))
 (.seq (.sem (.seq (.reg [Qa 74 5,
Qr 75 74 0])
 (.cond (.t 75)
 (.reg [Qb 76 3 2,
Qd 77 76,
Qh 78 77,
Qb 79 3 3,
Qd 80 79,
Qh 81 80,
Qn 82 78 81,
Qb 83 3 2,
Qd 84 83,
Qh 85 84,
Qb 86 3 3,
Qd 87 86,
Qh 88 87,
sq 89 (.bin .gtr (.t 85) (.t 88)),
Ql 90 101 82 89,
Qa 5 90])
 .skip)))
 (.seq (.seq (.reg [Qe 7 0])
 (.sem (.block 2 (.loop (.seq (.seq (.sem (.reg [Qa 91 7,
Qb 92 4 2,
Qd 93 92,
Qh 94 93,
Qn 95 91 94,
Qa 96 95,
Qv 97 96 true 7,
Qs 98 96 true 4 3,
Qt 99 96 true 98,
zg 100 96 true (.len (.t 99)),
zg 101 96 true (.bin .lss (.t 97) (.t 100)),
Qi 102 96 101,
Qa 103 102,
Qv 104 103 true 5,
zg 105 103 true (.bin .eql (.t 104) (kI 0)),
Qi 106 103 105]))
 (.cond (.t 106)
 .skip
 (.exit 2)))
 (.seq (.sem (.block 3 (.seq (.regd [Qb 109 4 2,
sd 110 (.load none (.t 109)) [0],
Qa 111 7,
sd 112 (.indexA 6 (.t 110) (.t 111)) [0,1,2],
sd 113 (.fieldA 0 (.t 112)) [0,1,2,3],
sd 114 (.load none (.t 113)) [0,1,2,3,4],
Qb 115 4 3,
sd 116 (.load none (.t 115)) [6],
Qa 117 7,
sd 118 (.indexA 6 (.t 116) (.t 117)) [6,7,8],
sd 119 (.fieldA 0 (.t 118)) [6,7,8,9],
sd 120 (.load none (.t 119)) [6,7,8,9,10],
sd 121 (.bin .lss (.t 114) (.t 120)) [0,1,2,3,4,5,6,7,8,9,10,11],
Qb 122 4 2,
sd 123 (.load none (.t 122)) [13],
Qa 124 7,
sd 125 (.indexA 6 (.t 123) (.t 124)) [13,14,15],
sd 126 (.fieldA 0 (.t 125)) [13,14,15,16],
sd 127 (.load none (.t 126)) [13,14,15,16,17],
Qb 128 4 3,
sd 129 (.load none (.t 128)) [19],
Qa 130 7,
sd 131 (.indexA 6 (.t 129) (.t 130)) [19,20,21],
sd 132 (.fieldA 0 (.t 131)) [19,20,21,22],
sd 133 (.load none (.t 132)) [19,20,21,22,23],
sd 134 (.bin .gtr (.t 127) (.t 133)) [13,14,15,16,17,18,19,20,21,22,23,24],
zl 135 (.call 101 [(.t 121),(.t 134)]) [0,1,2,3,4,5,6,7,8,9,10,11,12,13,14,15,16,17,18,19,20,21,22,23,24,25] [],
sd 5 (.mv (.t 135)) [0,1,2,3,4,5,6,7,8,9,10,11,12,13,14,15,16,17,18,19,20,21,22,23,24,25,26]])
 (.seq (.reg [Qa 136 5,
Qr 137 136 0])
 (.cond (.t 137)
 (.regd [Qb 138 4 2,
sd 139 (.load none (.t 138)) [0],
Qa 140 7,
sd 141 (.indexA 6 (.t 139) (.t 140)) [0,1,2],
sd 142 (.fieldA 1 (.t 141)) [0,1,2,3],
sd 143 (.load (some 5) (.t 142)) [0,1,2,3,4],
Qb 144 4 3,
sd 145 (.load none (.t 144)) [6],
Qa 146 7,
sd 147 (.indexA 6 (.t 145) (.t 146)) [6,7,8],
sd 148 (.fieldA 1 (.t 147)) [6,7,8,9],
sd 149 (.load (some 5) (.t 148)) [6,7,8,9,10],
zl 150 (.call 72 [(.t 143),(.t 149)]) [0,1,2,3,4,5,6,7,8,9,10,11] [],
sd 5 (.mv (.t 150)) [0,1,2,3,4,5,6,7,8,9,10,11,12]])
 .skip)))))
 (.reg [Qa 107 7,
Qm 108 107 1,
Qa 7 108])))))))
 (.seq (.seq (.reg [Qa 151 5,
Qr 152 151 0])
 (.cond (.t 152)
 (.reg [Qb 153 4 2,
Qd 154 153,
Qh 155 154,
Qb 156 4 3,
Qd 157 156,
Qh 158 157,
Qn 159 155 158,
Qb 160 4 2,
Qd 161 160,
Qh 162 161,
Qb 163 4 3,
Qd 164 163,
Qh 165 164,
sq 166 (.bin .gtr (.t 162) (.t 165)),
Ql 167 101 159 166,
Qa 5 167])
 .skip))
 (.seq (.reg [Qa 168 5,
Qa 4 168])
 .ret)))))))))⟩
theorem F72_ok{rc153:Ab→Ab→Option (Int)}(ih153:∀{x0:Ab} {x1:Ab} {r:Int} (h:rc153 x0 x1=some r),An Tryz.prog 72 [.agg (AJ x0),.agg (AJ x1)] [] (AL [.c (dI r)]) []){x0:Ab}{x1:Ab}{r:Int}(h:F72 rc153 x0 x1=some r):An Tryz.prog 72 [.agg (AJ x0),.agg (AJ x1)] [] (AL [.c (dI r)]) []:=by
 rw[F72]at h
 refine zc a72 (by kernel_rfl) rfl (ww ?_)
 obtain⟨t1,ht1,h⟩:=bi h
 refine cN [] (F101_ok ht1) trivial (ww ?_)
 obtain⟨o2,ho,h⟩:=bi h
 refine AB (fun s=>s=⟨[(2,Pz 0),(3,Pz 1),(5,oc (dI o2))],[xb (AJ x0),xb (AJ x1)]⟩) ?_ ?_
 ·have h:=ho
  clear ho
  refine ww ?_
  refine AH h (fun c3 h=>ww ?_) (fun c3 h=>ww ?_)
  ·obtain⟨t4,ht4,h⟩:=bi h
   refine cN [] (F101_ok ht4) trivial (ww ?_)
   cases h
   exact eM [some 0,some 1] rfl
  cases h
  exact eM [some 0,some 1] rfl
 rintro _ rfl
 clear ho
 refine ww ?_
 obtain⟨o5,ho,h⟩:=bi h
 refine AB (fun s=>s=⟨[(2,Pz 0),(3,Pz 1),(5,oc (dI o5))],[xb (AJ x0),xb (AJ x1)]⟩) ?_ ?_
 ·have h:=ho
  clear ho
  refine ww ?_
  refine AH h (fun c6 h=>ww ?_) (fun c6 h=>ww ?_)
  ·obtain⟨t7,ht7,h⟩:=bi h
   refine cN [] (F101_ok ht7) trivial (ww ?_)
   cases h
   exact eM [some 0,some 1] rfl
  cases h
  exact eM [some 0,some 1] rfl
 rintro _ rfl
 clear ho
 refine ww ?_
 obtain⟨o8,ho,h⟩:=bi h
 refine AB (fun s=>s=⟨[(2,Pz 0),(3,Pz 1),(5,oc (dI o8))],[xb (AJ x0),xb (AJ x1)]⟩) ?_ ?_
 ·have h:=ho
  clear ho
  refine ww ?_
  refine bL (fun j s=>∃(o8_0:Int) (o8_1:Int),s=⟨[(2,Pz 0),(3,Pz 1),(5,oc (dI o8_0)),(6,oc (dI o8_1))],[xb (AJ x0),xb (AJ x1)]⟩∧F72_l8 rc153 x0 x1 j o8_0 o8_1=some o8) 1099511627776 [some 0,some 1] ⟨o5,0,rfl,h⟩ ?_
  rintro j _ ⟨o8_0,o8_1,rfl,h⟩
  cases j with
  |zero=>cases(show(none:Option _)=some _ from h)
  |succ j=>
   rw[F72_l8]at h
   refine ww ?_
   obtain⟨o9,ho,h⟩:=bi h
   refine AB (fun s=>s=⟨[(2,Pz 0),(3,Pz 1),(5,oc (dI o8_0)),(6,oc (dI o8_1)),(60,oc (dB o9))],[xb (AJ x0),xb (AJ x1)]⟩) ?_ ?_
   ·have h:=ho
    clear ho
    refine ww ?_
    refine Af h (fun g10 h=>ww ?_) (fun g10 h=>?_)
    ·refine Af h (fun g11 h=>ww ?_) (fun g11 h=>?_)
     ·cases h
      exact eM [some 0,some 1] rfl
     ·refine ww ?_
      cases h
      exact eM [some 0,some 1] rfl
    ·refine ww ?_
     cases h
     exact eM [some 0,some 1] rfl
   ·rintro _ rfl
    clear ho
    refine ww ?_
    refine AE h (fun c12 h=>ww ?_) (fun c12 h=>?_)
    ·obtain⟨y13,hy13,h⟩:=bi h
     refine Az (enc:=Ap) (xs:=x0.At) rfl rfl hy13 (by rw[Cq];rfl) (ww ?_)
     obtain⟨y14,hy14,h⟩:=bi h
     refine Az (enc:=Ap) (xs:=x1.At) rfl rfl hy14 (by rw[Cq];rfl) (ww ?_)
     obtain⟨t15,ht15,h⟩:=bi h
     refine cN [] (ih153 ht15) trivial (ww ?_)
     exact eL' j [some 0,some 1] ⟨t15,(IntKind.i64.wrap (o8_1+1)),rfl,h⟩ (Nat.lt_succ_self _)
    ·refine ww ?_
     cases h
     exact eM [some 0,some 1] rfl
 rintro _ rfl
 clear ho
 refine ww ?_
 obtain⟨o16,ho,h⟩:=bi h
 refine AB (fun s=>s=⟨[(2,Pz 0),(3,Pz 1),(5,oc (dI o16))],[xb (AJ x0),xb (AJ x1)]⟩) ?_ ?_
 ·have h:=ho
  clear ho
  refine ww ?_
  refine AH h (fun c17 h=>ww ?_) (fun c17 h=>ww ?_)
  ·obtain⟨t18,ht18,h⟩:=bi h
   refine cN [] (F101_ok ht18) trivial (ww ?_)
   cases h
   exact eM [some 0,some 1] rfl
  cases h
  exact eM [some 0,some 1] rfl
 rintro _ rfl
 clear ho
 refine ww ?_
 obtain⟨o19,ho,h⟩:=bi h
 refine AB (fun s=>s=⟨[(2,Pz 0),(3,Pz 1),(5,oc (dI o19))],[xb (AJ x0),xb (AJ x1)]⟩) ?_ ?_
 ·have h:=ho
  clear ho
  refine ww ?_
  refine bL (fun j s=>∃(o19_0:Int) (o19_1:Int),s=⟨[(2,Pz 0),(3,Pz 1),(5,oc (dI o19_0)),(7,oc (dI o19_1))],[xb (AJ x0),xb (AJ x1)]⟩∧F72_l19 rc153 x0 x1 j o19_0 o19_1=some o19) 1099511627776 [some 0,some 1] ⟨o16,0,rfl,h⟩ ?_
  rintro j _ ⟨o19_0,o19_1,rfl,h⟩
  cases j with
  |zero=>cases(show(none:Option _)=some _ from h)
  |succ j=>
   rw[F72_l19]at h
   refine ww ?_
   obtain⟨o20,ho,h⟩:=bi h
   refine AB (fun s=>s=⟨[(2,Pz 0),(3,Pz 1),(5,oc (dI o19_0)),(7,oc (dI o19_1)),(106,oc (dB o20))],[xb (AJ x0),xb (AJ x1)]⟩) ?_ ?_
   ·have h:=ho
    clear ho
    refine ww ?_
    refine Af h (fun g21 h=>ww ?_) (fun g21 h=>?_)
    ·refine Af h (fun g22 h=>ww ?_) (fun g22 h=>?_)
     ·cases h
      exact eM [some 0,some 1] rfl
     ·refine ww ?_
      cases h
      exact eM [some 0,some 1] rfl
    ·refine ww ?_
     cases h
     exact eM [some 0,some 1] rfl
   ·rintro _ rfl
    clear ho
    refine ww ?_
    refine AE h (fun c23 h=>ww ?_) (fun c23 h=>?_)
    ·obtain⟨o24,ho,h⟩:=bi h
     refine AB (fun s=>s=⟨[(2,Pz 0),(3,Pz 1),(5,oc (dI o24)),(7,oc (dI o19_1))],[xb (AJ x0),xb (AJ x1)]⟩) ?_ ?_
     ·have h:=ho
      clear ho
      refine ww ?_
      obtain⟨y25,hy25,h⟩:=bi h
      refine Az (enc:=Ao) (xs:=x0.Ae) rfl rfl hy25 (by rw[BA];rfl) (ww ?_)
      obtain⟨y26,hy26,h⟩:=bi h
      refine Az (enc:=Ao) (xs:=x1.Ae) rfl rfl hy26 (by rw[BA];rfl) (ww ?_)
      refine Az (enc:=Ao) (xs:=x0.Ae) rfl rfl hy25 (by rw[BA];rfl) (ww ?_)
      refine Az (enc:=Ao) (xs:=x1.Ae) rfl rfl hy26 (by rw[BA];rfl) (ww ?_)
      obtain⟨t27,ht27,h⟩:=bi h
      refine cN [] (F101_ok ht27) trivial (ww ?_)
      refine AH h (fun c28 h=>ww ?_) (fun c28 h=>?_)
      ·refine Az (enc:=Ao) (xs:=x0.Ae) rfl rfl hy25 (by rw[BA];rfl) (ww ?_)
       refine Az (enc:=Ao) (xs:=x1.Ae) rfl rfl hy26 (by rw[BA];rfl) (ww ?_)
       obtain⟨t29,ht29,h⟩:=bi h
       refine cN [] (ih153 ht29) trivial (ww ?_)
       cases h
       exact eM [some 0,some 1] rfl
      ·refine ww ?_
       cases h
       exact eM [some 0,some 1] rfl
     ·rintro _ rfl
      clear ho
      refine ww ?_
      exact eL' j [some 0,some 1] ⟨o24,(IntKind.i64.wrap (o19_1+1)),rfl,h⟩ (Nat.lt_succ_self _)
    ·refine ww ?_
     cases h
     exact eM [some 0,some 1] rfl
 rintro _ rfl
 clear ho
 refine ww ?_
 refine AH h (fun c30 h=>ww ?_) (fun c30 h=>ww ?_)
 ·obtain⟨t31,ht31,h⟩:=bi h
  refine cN [] (F101_ok ht31) trivial (ww ?_)
  cases h
  exact eF []
 cases h
 exact eF []
def F72k:Nat→Ab→Ab→Option (Int)
 |0=>fun _ _=>none
 |k+1=>F72 (F72k k)
theorem F72k_ok(k:Nat){x0:Ab}{x1:Ab}{r:Int}(h:F72k k x0 x1=some r):An Tryz.prog 72 [.agg (AJ x0),.agg (AJ x1)] [] (AL [.c (dI r)]) []:=by
 induction k generalizing x0 x1 r with
 |zero=>cases(show(none:Option (Int))=some _ from h)
 |succ k ih=>exact F72_ok (fun h=>ih h) h
end Go.Proofs.YtdkmamiedcanfaaGreat
