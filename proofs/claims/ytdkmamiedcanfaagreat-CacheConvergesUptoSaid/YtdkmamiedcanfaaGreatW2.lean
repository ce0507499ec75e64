/- Each Go function as a function over typed data, and its walk. -/
import Derived.Test.YtdkmamiedcanfaaGreatW0
namespace Go.Proofs.YtdkmamiedcanfaaGreat
open Go Go.Fw Go.Shelf
set_option maxRecDepth 100000
set_option maxHeartbeats 4000000
set_option linter.unusedSimpArgs false
set_option linter.unusedVariables false
def F54_l1(rc1:Ab→Option (Int)):List Ab→Nat→Int→Option (Int)
 |[],o1_1,o1_0=>some o1_0
 |xo1::xs,o1_1,o1_0=>(rc1 xo1).bind fun t3=>F54_l1 rc1 xs (o1_1+1) ((IntKind.i64.wrap (o1_0+t3)))
def F54_l5(rc1:Ab→Option (Int)):List Ay→Nat→Int→Option (Int)
 |[],o5_1,o5_0=>some o5_0
 |xo5::xs,o5_1,o5_0=>(rc1 xo5.V).bind fun t7=>F54_l5 rc1 xs (o5_1+1) ((IntKind.i64.wrap (o5_0+t7)))
def F54(rc1:Ab→Option (Int))(x0:Ab):Option (Int):=(((ck (0≤x0.At.length∧x0.At.length≤4294967290)).bind fun u4=>F54_l1 rc1 x0.At 0 1).bind fun o1=>(((ck (0≤x0.Ae.length∧x0.Ae.length≤4294967290)).bind fun u8=>F54_l5 rc1 x0.Ae 0 o1).bind fun o5=>some o5))
def a54:AFn:=⟨38,[(.tmp 2)],
 (.seq (.reg [Qg 1 0,
Qe 2 0])
 (.seq (.reg [Qe 3 1])
 (.seq (.seq (.reg [Qe 4 0])
 (.sem (.block 0 (.loop (.seq (.seq (.reg [Qa 6 4,
Qb 7 3 1,
Qd 8 7,
Qh 9 8,
Qn 10 6 9])
 (.cond (.t 10)
 .skip
 (.exit 0)))
 (.seq (.block 1 (.reg [Qa 13 3,
Qb 14 3 1,
Qd 15 14,
Qa 16 4,
Qp 17 5 15 16,
Qc 18 5 17,
Qk 19 54 18,
sq 20 (.bin .add (.t 13) (.t 19)),
Qa 3 20]))
 (.reg [Qa 11 4,
Qm 12 11 1,
Qa 4 12])))))))
 (.seq (.seq (.reg [Qe 5 0])
 (.sem (.block 2 (.loop (.seq (.seq (.reg [Qa 21 5,
Qb 22 4 1,
Qd 23 22,
Qh 24 23,
Qn 25 21 24])
 (.cond (.t 25)
 .skip
 (.exit 2)))
 (.seq (.block 3 (.reg [Qa 28 3,
Qb 29 4 1,
Qd 30 29,
Qa 31 5,
Qp 32 6 30 31,
Qb 33 1 32,
Qc 34 5 33,
Qk 35 54 34,
sq 36 (.bin .add (.t 28) (.t 35)),
Qa 3 36]))
 (.reg [Qa 26 5,
Qm 27 26 1,
Qa 5 27])))))))
 (.seq (.reg [Qa 37 3,
Qa 2 37])
 .ret)))))⟩
theorem F54_ok{rc1:Ab→Option (Int)}(ih1:∀{x0:Ab} {r:Int} (h:rc1 x0=some r),An Tryz.prog 54 [.agg (AJ x0)] [] (AL [.c (dI r)]) []){x0:Ab}{r:Int}(h:F54 rc1 x0=some r):An Tryz.prog 54 [.agg (AJ x0)] [] (AL [.c (dI r)]) []:=by
 rw[F54]at h
 refine zc a54 (by kernel_rfl) rfl (ww ?_)
 obtain⟨o1,ho,h⟩:=bi h
 refine AB (fun s=>s=⟨[(1,Pz 0),(3,oc (dI o1))],[xb (AJ x0)]⟩) ?_ ?_
 ·have h:=ho
  clear ho
  obtain⟨_,hk,h⟩:=bi h
  have hk:=AS hk
  refine ww ?_
  refine bL (fun j s=>∃(o1_1:Nat) (o1_0:Int),(o1_1≤x0.At.length∧j=x0.At.length-o1_1)∧s=⟨[(1,Pz 0),(3,oc (dI o1_0)),(4,oc (dI ((o1_1:Int))))],[xb (AJ x0)]⟩∧F54_l1 rc1 (x0.At.drop o1_1) o1_1 o1_0=some o1) (x0.At.length-0) [some 0] ⟨0,1,⟨hk.1,rfl⟩,rfl,h⟩ ?_
  rintro _ _ ⟨o1_1,o1_0,⟨hi,rfl⟩,rfl,h⟩
  refine ww ?_
  refine Bg (fun c2=>?_) (fun c2=>?_)
  ·obtain⟨xo1,hxo1,hd⟩:=A5 (show(o1_1:Int)<(x0.At.length:Int)from c2)
   rw[hd,F54_l1]at h
   refine ww ?_
   refine Az (enc:=Ap) (xs:=x0.At) rfl rfl hxo1 (by rw[Cq];rfl) (ww ?_)
   obtain⟨t3,ht3,h⟩:=bi h
   refine cN [] (ih1 ht3) trivial (ww ?_)
   rw[AW (by omega)]
   exact eL' (x0.At.length-(o1_1+1)) [some 0] ⟨o1_1+1,(IntKind.i64.wrap (o1_0+t3)),⟨by omega,rfl⟩,rfl,h⟩ (by omega)
  rw[A6 (show¬((o1_1:Int)<(x0.At.length:Int))from c2),F54_l1]at h
  refine ww ?_
  cases h
  exact eM [some 0] rfl
 rintro _ rfl
 clear ho
 refine ww ?_
 obtain⟨o5,ho,h⟩:=bi h
 refine AB (fun s=>s=⟨[(3,oc (dI o5))],[]⟩) ?_ ?_
 ·have h:=ho
  clear ho
  obtain⟨_,hk,h⟩:=bi h
  have hk:=AS hk
  refine ww ?_
  refine bL (fun j s=>∃(o5_1:Nat) (o5_0:Int),(o5_1≤x0.Ae.length∧j=x0.Ae.length-o5_1)∧s=⟨[(1,Pz 0),(3,oc (dI o5_0)),(5,oc (dI ((o5_1:Int))))],[xb (AJ x0)]⟩∧F54_l5 rc1 (x0.Ae.drop o5_1) o5_1 o5_0=some o5) (x0.Ae.length-0) [some 0] ⟨0,o1,⟨hk.1,rfl⟩,rfl,h⟩ ?_
  rintro _ _ ⟨o5_1,o5_0,⟨hi,rfl⟩,rfl,h⟩
  refine ww ?_
  refine Bg (fun c6=>?_) (fun c6=>?_)
  ·obtain⟨xo5,hxo5,hd⟩:=A5 (show(o5_1:Int)<(x0.Ae.length:Int)from c6)
   rw[hd,F54_l5]at h
   refine ww ?_
   refine Az (enc:=Ao) (xs:=x0.Ae) rfl rfl hxo5 (by rw[BA];rfl) (ww ?_)
   obtain⟨t7,ht7,h⟩:=bi h
   refine cN [] (ih1 ht7) trivial (ww ?_)
   rw[AW (by omega)]
   exact eL' (x0.Ae.length-(o5_1+1)) [some 0] ⟨o5_1+1,(IntKind.i64.wrap (o5_0+t7)),⟨by omega,rfl⟩,rfl,h⟩ (by omega)
  rw[A6 (show¬((o5_1:Int)<(x0.Ae.length:Int))from c6),F54_l5]at h
  refine ww ?_
  cases h
  exact eM [] rfl
 rintro _ rfl
 clear ho
 refine ww ?_
 cases h
 exact eF []
def F54k:Nat→Ab→Option (Int)
 |0=>fun _=>none
 |k+1=>F54 (F54k k)
theorem F54k_ok(k:Nat){x0:Ab}{r:Int}(h:F54k k x0=some r):An Tryz.prog 54 [.agg (AJ x0)] [] (AL [.c (dI r)]) []:=by
 induction k generalizing x0 r with
 |zero=>cases(show(none:Option (Int))=some _ from h)
 |succ k ih=>exact F54_ok (fun h=>ih h) h
def F23_l2:List Ah→Nat→Option ((Bool) ⊕ (Unit))
 |[],o2_0=>some (Sum.inr (()))
 |xo2::xs,o2_0=>(if 70<(xo2.Aq.length:Int)then(some false).map Sum.inl else F23_l2 xs (o2_0+1))
def F23(x0:Filter):Option (Bool):=(if 20<(x0.Selector.length:Int)then some false else(((ck (0≤x0.Selector.length∧x0.Selector.length≤4294967290)).bind fun u5=>F23_l2 x0.Selector 0:Option ((Bool) ⊕ (Unit))).bind fun o2=>match o2 with|Sum.inl f=>some f|Sum.inr po2=>some true))
def a23:AFn:=⟨23,[(.tmp 2)],
 (.seq (.reg [Qg 1 0,
Qf 2 false])
 (.seq (.seq (.reg [Qb 4 2 1,
Qd 5 4,
Qh 6 5,
sq 7 (.bin .gtr (.t 6) (kI 20))])
 (.cond (.t 7)
 (.seq (.reg [Qf 2 false])
 .ret)
 .skip))
 (.seq (.seq (.reg [Qe 3 0])
 (.sem (.block 0 (.loop (.seq (.seq (.reg [Qa 8 3,
Qb 9 2 1,
Qd 10 9,
Qh 11 10,
Qn 12 8 11])
 (.cond (.t 12)
 .skip
 (.exit 0)))
 (.seq (.block 1 (.seq (.reg [Qb 15 2 1,
Qd 16 15,
Qa 17 3,
Qp 18 3 16 17,
Qb 19 2 18,
Qd 20 19,
Qh 21 20,
sq 22 (.bin .gtr (.t 21) (kI 70))])
 (.cond (.t 22)
 (.seq (.reg [Qf 2 false])
 .ret)
 .skip)))
 (.reg [Qa 13 3,
Qm 14 13 1,
Qa 3 14])))))))
 (.seq (.reg [Qf 2 true])
 .ret))))⟩
theorem F23_ok{x0 r}(h:F23 x0=some r):An Tryz.prog 23 [.agg (Bj x0)] [] (AL [.c (dB r)]) []:=by
 rw[F23]at h
 refine zc a23 (by kernel_rfl) rfl (ww ?_)
 refine AH h (fun c1 h=>ww ?_) (fun c1 h=>ww ?_)
 ·cases h
  exact eF []
 obtain⟨o2,ho,h⟩:=bi h
 refine AB (fun s=>∃po2,o2=Sum.inr po2∧s=⟨[],[]⟩) ?_ ?_
 ·have h0o2:=h
  have h:=ho
  clear ho
  obtain⟨_,hk,h⟩:=bi h
  have hk:=AS hk
  refine ww ?_
  refine bL (fun j s=>∃(o2_0:Nat),(o2_0≤x0.Selector.length∧j=x0.Selector.length-o2_0)∧s=⟨[(1,Pz 0),(3,oc (dI ((o2_0:Int))))],[xb (Bj x0)]⟩∧F23_l2 (x0.Selector.drop o2_0) o2_0=some o2) (x0.Selector.length-0) [some 0] ⟨0,⟨hk.1,rfl⟩,rfl,h⟩ ?_
  rintro _ _ ⟨o2_0,⟨hi,rfl⟩,rfl,h⟩
  refine ww ?_
  refine Bg (fun c3=>?_) (fun c3=>?_)
  ·obtain⟨xo2,hxo2,hd⟩:=A5 (show(o2_0:Int)<(x0.Selector.length:Int)from c3)
   rw[hd,F23_l2]at h
   refine ww ?_
   refine Az (enc:=Al) (xs:=x0.Selector) rfl rfl hxo2 rfl (ww ?_)
   refine AH h (fun c4 h=>ww ?_) (fun c4 h=>ww ?_)
   ·obtain⟨fh0o2,hfh0o2,rfl⟩:=Option.map_eq_some_iff.1 h
    have h:=hfh0o2.trans h0o2
    cases h
    exact eF []
   rw[AW (by omega)]
   exact eL' (x0.Selector.length-(o2_0+1)) [some 0] ⟨o2_0+1,⟨by omega,rfl⟩,rfl,h⟩ (by omega)
  rw[A6 (show¬((o2_0:Int)<(x0.Selector.length:Int))from c3),F23_l2]at h
  refine ww ?_
  cases h
  exact eM [] ⟨_,rfl,rfl⟩
 rintro _ ⟨po2,rfl,rfl⟩
 clear ho
 dsimp only at h
 refine ww ?_
 cases h
 exact eF []
def F56:Option (Unit):=some (())
def a56:AFn:=⟨2,[(.cell 0 (some 6))],
 (.seq (.reg [zl 0 (.zbox [dI 0,dI 0,dI 0,dN,dN,dN]) [] []])
 (.seq (.reg [sq 1 (.build [dI 0,dI 0,dI 0,dN,dN,dN] [(2,1,(kI 1))]),
su (.store 6 (.t 0) (.t 1))])
 .ret))⟩
theorem F56_ok{r}(h:F56=some r):An Tryz.prog 56 [] [] (AL [.agg [dI 0,dI 0,dI 1,dM (([]:List Object).map Ad),dM (([]:List Object).map Ad),dM (([]:List Change).map A9)]]) []:=by
 rw[F56]at h
 refine zc a56 (by kernel_rfl) rfl (ww ?_)
 cases h
 exact eF []
def F57(x0:ByteArray):Option (Unit):=some (())
def a57:AFn:=⟨6,[(.cell 2 (some 23))],
 (.seq (.reg [zl 2 (.zbox [dS ⟨#[]⟩,dS ⟨#[]⟩,dS ⟨#[]⟩,dI 0,dI 0,dI 0,dI 0,dB false,dI 0,dN,dN,dN,dN,dI 0,dI 0,dS ⟨#[]⟩,dN,dN,dI 0,dI 0,dS ⟨#[]⟩,dN,dN]) [] []])
 (.seq (.reg [Qa 3 0,
sq 4 (.build [dS ⟨#[]⟩,dS ⟨#[]⟩,dS ⟨#[]⟩,dI 0,dI 0,dI 0,dI 0,dB false,dI 0,dN,dN,dN,dN] [(0,1,(kS ⟨#[80,111,100]⟩)),(1,1,(kS ⟨#[110]⟩)),(2,1,(.t 3))]),
sq 5 (.build [dS ⟨#[]⟩,dS ⟨#[]⟩,dS ⟨#[]⟩,dI 0,dI 0,dI 0,dI 0,dB false,dI 0,dN,dN,dN,dN,dI 0,dI 0,dS ⟨#[]⟩,dN,dN,dI 0,dI 0,dS ⟨#[]⟩,dN,dN] [(0,13,(.t 4))]),
su (.store 23 (.t 2) (.t 5))])
 .ret))⟩
theorem F57_ok{x0 r}(h:F57 x0=some r):An Tryz.prog 57 [.c (dS x0)] [] (AL [.agg [dS ((⟨#[80,111,100]⟩:ByteArray)),dS ((⟨#[110]⟩:ByteArray)),dS x0,dI 0,dI 0,dI 0,dI 0,dB false,dI 0,dM (([]:List Label).map AY),dM (([]:List BO).map A3),dM (([]:List ByteArray).map eS),dM (([]:List AI).map AG),dI 0,dI 0,dS ((⟨#[]⟩:ByteArray)),dM (([]:List Ab).map Ap),dM (([]:List Ay).map Ao),dI 0,dI 0,dS ((⟨#[]⟩:ByteArray)),dM (([]:List Ab).map Ap),dM (([]:List Ay).map Ao)]]) []:=by
 rw[F57]at h
 refine zc a57 (by kernel_rfl) rfl (ww ?_)
 cases h
 exact eF []
def F161_l8(x0:ByteArray):Nat→Int→Option ((Bool) ⊕ (Unit))
 |0,_=>none
 |k+1,o8_0=>(if o8_0<(x0.size:Int)then(((byI x0 o8_0).bind fun y11=>(if 97≤y11 then(byI x0 o8_0).bind fun y13=>(if¬(y13≤122)then(byI x0 o8_0).bind fun y15=>(if 48≤y15 then(byI x0 o8_0).bind fun y17=>(if¬(y17≤57)then(byI x0 o8_0).bind fun y19=>some (decide (¬(y19=45)))else some false)else(byI x0 o8_0).bind fun y20=>some (decide (¬(y20=45))))else some false)else(byI x0 o8_0).bind fun y21=>(if 48≤y21 then(byI x0 o8_0).bind fun y23=>(if¬(y23≤57)then(byI x0 o8_0).bind fun y25=>some (decide (¬(y25=45)))else some false)else(byI x0 o8_0).bind fun y26=>some (decide (¬(y26=45)))))).bind fun o10=>(if o10=true then(some false).map Sum.inl else F161_l8 x0 k ((IntKind.i64.wrap (o8_0+1)))))else some (Sum.inr (())))
def F161(x0:ByteArray):Option (Bool):=(((if x0=(⟨#[]⟩:ByteArray)then some true else(if 40<(x0.size:Int)then some true else(byI x0 0).bind fun y4=>(if y4=45 then some true else(byI x0 ((IntKind.i64.wrap (((x0.size:Int))-1)))).bind fun y6=>some (decide (y6=45)))))).bind fun o1=>(if o1=true then some false else((F161_l8 x0 1099511627776 0:Option ((Bool) ⊕ (Unit))).bind fun o8=>match o8 with|Sum.inl f=>some f|Sum.inr po8=>some true)))
def a161:AFn:=⟨60,[(.tmp 2)],
 (.seq (.reg [Qf 2 false])
 (.seq (.seq (.sem (.reg [Qa 4 0,
sq 5 (.bin .eql (.t 4) (kS ⟨#[]⟩)),
Qa 6 5,
Qv 7 6 false 0,
zg 8 6 false (.slen (.t 7)),
zg 9 6 false (.bin .gtr (.t 8) (kI 40)),
Qj 10 6 9,
Qa 11 10,
Qv 12 11 false 0,
zg 13 11 false (.sidx (.t 12) (kI 0)),
zg 14 11 false (.bin .eql (.t 13) (.k (.c (.d (.v (.int .u8 45)))))),
Qj 15 11 14,
Qa 16 15,
Qv 17 16 false 0,
Qv 18 16 false 0,
zg 19 16 false (.slen (.t 18)),
zg 20 16 false (.bin .sub (.t 19) (kI 1)),
zg 21 16 false (.sidx (.t 17) (.t 20)),
zg 22 16 false (.bin .eql (.t 21) (.k (.c (.d (.v (.int .u8 45)))))),
Qj 23 16 22]))
 (.cond (.t 23)
 (.seq (.reg [Qf 2 false])
 .ret)
 .skip))
 (.seq (.seq (.reg [Qe 3 0])
 (.sem (.block 0 (.loop (.seq (.seq (.reg [Qa 24 3,
Qa 25 0,
sq 26 (.slen (.t 25)),
Qn 27 24 26])
 (.cond (.t 27)
 .skip
 (.exit 0)))
 (.seq (.block 1 (.seq (.sem (.reg [Qa 30 0,
Qa 31 3,
sq 32 (.sidx (.t 30) (.t 31)),
sq 33 (.bin .geq (.t 32) (.k (.c (.d (.v (.int .u8 97)))))),
Qa 34 33,
Qv 35 34 true 0,
Qv 36 34 true 3,
zg 37 34 true (.sidx (.t 35) (.t 36)),
zg 38 34 true (.bin .leq (.t 37) (.k (.c (.d (.v (.int .u8 122)))))),
Qi 39 34 38,
Qq 40 39,
Qa 41 40,
Qv 42 41 true 0,
Qv 43 41 true 3,
zg 44 41 true (.sidx (.t 42) (.t 43)),
zg 45 41 true (.bin .geq (.t 44) (.k (.c (.d (.v (.int .u8 48)))))),
Qv 46 41 true 45,
Qv 47 46 true 0,
Qv 48 46 true 3,
zg 49 46 true (.sidx (.t 47) (.t 48)),
zg 50 46 true (.bin .leq (.t 49) (.k (.c (.d (.v (.int .u8 57)))))),
zg 51 41 true (.pick (.t 46) (.t 50) (kB false)),
zg 52 41 true (.not (.t 51)),
Qi 53 41 52,
Qa 54 53,
Qv 55 54 true 0,
Qv 56 54 true 3,
zg 57 54 true (.sidx (.t 55) (.t 56)),
zg 58 54 true (.bin .neq (.t 57) (.k (.c (.d (.v (.int .u8 45)))))),
Qi 59 54 58]))
 (.cond (.t 59)
 (.seq (.reg [Qf 2 false])
 .ret)
 .skip)))
 (.reg [Qa 28 3,
Qm 29 28 1,
Qa 3 29])))))))
 (.seq (.reg [Qf 2 true])
 .ret))))⟩
theorem F161_ok{x0 r}(h:F161 x0=some r):An Tryz.prog 161 [.c (dS x0)] [] (AL [.c (dB r)]) []:=by
 rw[F161]at h
 refine zc a161 (by kernel_rfl) rfl (ww ?_)
 obtain⟨o1,ho,h⟩:=bi h
 refine AB (fun s=>s=⟨[(0,oc (dS x0)),(23,oc (dB o1))],[]⟩) ?_ ?_
 ·have h:=ho
  clear ho
  refine ww ?_
  refine Af h (fun g2 h=>ww ?_) (fun g2 h=>ww ?_)
  ·cases h
   exact eM [] rfl
  refine Af h (fun g3 h=>ww ?_) (fun g3 h=>ww ?_)
  ·cases h
   exact eM [] rfl
  obtain⟨y4,hy4,h⟩:=bi h
  refine Bx rfl rfl hy4 (ww ?_)
  refine Af h (fun g5 h=>ww ?_) (fun g5 h=>ww ?_)
  ·cases h
   exact eM [] rfl
  obtain⟨y6,hy6,h⟩:=bi h
  refine Bx rfl rfl hy6 (ww ?_)
  cases h
  exact eM [] rfl
 rintro _ rfl
 clear ho
 refine ww ?_
 refine AE h (fun c7 h=>ww ?_) (fun c7 h=>ww ?_)
 ·cases h
  exact eF []
 obtain⟨o8,ho,h⟩:=bi h
 refine AB (fun s=>∃po8,o8=Sum.inr po8∧s=⟨[],[]⟩) ?_ ?_
 ·have h0o8:=h
  have h:=ho
  clear ho
  refine ww ?_
  refine bL (fun j s=>∃(o8_0:Int),s=⟨[(0,oc (dS x0)),(3,oc (dI o8_0))],[]⟩∧F161_l8 x0 j o8_0=some o8) 1099511627776 [] ⟨0,rfl,h⟩ ?_
  rintro j _ ⟨o8_0,rfl,h⟩
  cases j with
  |zero=>cases(show(none:Option _)=some _ from h)
  |succ j=>
   rw[F161_l8]at h
   refine ww ?_
   refine AH h (fun c9 h=>ww ?_) (fun c9 h=>?_)
   ·obtain⟨o10,ho,h⟩:=bi h
    refine AB (fun s=>s=⟨[(0,oc (dS x0)),(3,oc (dI o8_0)),(59,oc (dB o10))],[]⟩) ?_ ?_
    ·have h:=ho
     clear ho
     refine ww ?_
     obtain⟨y11,hy11,h⟩:=bi h
     refine Bx rfl rfl hy11 (ww ?_)
     refine Af h (fun g12 h=>ww ?_) (fun g12 h=>?_)
     ·obtain⟨y13,hy13,h⟩:=bi h
      refine Bx rfl rfl hy13 (ww ?_)
      refine Af h (fun g14 h=>ww ?_) (fun g14 h=>?_)
      ·obtain⟨y15,hy15,h⟩:=bi h
       refine Bx rfl rfl hy15 (ww ?_)
       refine Af h (fun g16 h=>ww ?_) (fun g16 h=>?_)
       ·obtain⟨y17,hy17,h⟩:=bi h
        refine Bx rfl rfl hy17 (ww ?_)
        refine Af h (fun g18 h=>ww ?_) (fun g18 h=>?_)
        ·obtain⟨y19,hy19,h⟩:=bi h
         refine Bx rfl rfl hy19 (ww ?_)
         cases h
         exact eM [] rfl
        ·refine ww ?_
         cases h
         exact eM [] rfl
       ·refine ww ?_
        obtain⟨y20,hy20,h⟩:=bi h
        refine Bx rfl rfl hy20 (ww ?_)
        cases h
        exact eM [] rfl
      ·refine ww ?_
       cases h
       exact eM [] rfl
     ·refine ww ?_
      obtain⟨y21,hy21,h⟩:=bi h
      refine Bx rfl rfl hy21 (ww ?_)
      refine Af h (fun g22 h=>ww ?_) (fun g22 h=>?_)
      ·obtain⟨y23,hy23,h⟩:=bi h
       refine Bx rfl rfl hy23 (ww ?_)
       refine Af h (fun g24 h=>ww ?_) (fun g24 h=>?_)
       ·obtain⟨y25,hy25,h⟩:=bi h
        refine Bx rfl rfl hy25 (ww ?_)
        cases h
        exact eM [] rfl
       ·refine ww ?_
        cases h
        exact eM [] rfl
      ·refine ww ?_
       obtain⟨y26,hy26,h⟩:=bi h
       refine Bx rfl rfl hy26 (ww ?_)
       cases h
       exact eM [] rfl
    ·rintro _ rfl
     clear ho
     refine ww ?_
     refine AE h (fun c27 h=>ww ?_) (fun c27 h=>?_)
     ·obtain⟨fh0o8,hfh0o8,rfl⟩:=Option.map_eq_some_iff.1 h
      have h:=hfh0o8.trans h0o8
      cases h
      exact eF []
     ·refine ww ?_
      exact eL' j [] ⟨(IntKind.i64.wrap (o8_0+1)),rfl,h⟩ (Nat.lt_succ_self _)
   ·refine ww ?_
    cases h
    exact eM [] ⟨_,rfl,rfl⟩
 rintro _ ⟨po8,rfl,rfl⟩
 clear ho
 dsimp only at h
 refine ww ?_
 cases h
 exact eF []
def F159(x0:Int):Option (Bool):=(((if 97≤x0 then(if x0≤122 then some true else(if 48≤x0 then(if x0≤57 then some true else(if x0=45 then some true else(if x0=46 then some true else some (decide (x0=47)))))else(if x0=45 then some true else(if x0=46 then some true else some (decide (x0=47))))))else(if 48≤x0 then(if x0≤57 then some true else(if x0=45 then some true else(if x0=46 then some true else some (decide (x0=47)))))else(if x0=45 then some true else(if x0=46 then some true else some (decide (x0=47))))))).bind fun o1=>some o1)
def a159:AFn:=⟨29,[(.tmp 2)],
 (.seq (.reg [Qf 2 false])
 (.seq (.sem (.reg [Qa 3 0,
sq 4 (.bin .geq (.t 3) (.k (.c (.d (.v (.int .u8 97)))))),
Qa 5 4,
Qv 6 5 true 0,
zg 7 5 true (.bin .leq (.t 6) (.k (.c (.d (.v (.int .u8 122)))))),
Qi 8 5 7,
Qa 9 8,
Qv 10 9 false 0,
zg 11 9 false (.bin .geq (.t 10) (.k (.c (.d (.v (.int .u8 48)))))),
Qv 12 9 false 11,
Qv 13 12 true 0,
zg 14 12 true (.bin .leq (.t 13) (.k (.c (.d (.v (.int .u8 57)))))),
zg 15 9 false (.pick (.t 12) (.t 14) (kB false)),
Qj 16 9 15,
Qa 17 16,
Qv 18 17 false 0,
zg 19 17 false (.bin .eql (.t 18) (.k (.c (.d (.v (.int .u8 45)))))),
Qj 20 17 19,
Qa 21 20,
Qv 22 21 false 0,
zg 23 21 false (.bin .eql (.t 22) (.k (.c (.d (.v (.int .u8 46)))))),
Qj 24 21 23,
Qa 25 24,
Qv 26 25 false 0,
zg 27 25 false (.bin .eql (.t 26) (.k (.c (.d (.v (.int .u8 47)))))),
Qj 28 25 27,
Qa 2 28]))
 .ret))⟩
theorem F159_ok{x0 r}(h:F159 x0=some r):An Tryz.prog 159 [.c (.d (.v (.int .u8 x0)))] [] (AL [.c (dB r)]) []:=by
 rw[F159]at h
 refine zc a159 (by kernel_rfl) rfl (ww ?_)
 obtain⟨o1,ho,h⟩:=bi h
 refine AB (fun s=>s=⟨[(2,oc (dB o1))],[]⟩) ?_ ?_
 ·have h:=ho
  clear ho
  refine ww ?_
  refine Af h (fun g2 h=>ww ?_) (fun g2 h=>ww ?_)
  ·refine Af h (fun g3 h=>ww ?_) (fun g3 h=>ww ?_)
   ·cases h
    exact eM [] rfl
   refine Af h (fun g4 h=>ww ?_) (fun g4 h=>ww ?_)
   ·refine Af h (fun g5 h=>ww ?_) (fun g5 h=>ww ?_)
    ·cases h
     exact eM [] rfl
    refine Af h (fun g6 h=>ww ?_) (fun g6 h=>ww ?_)
    ·cases h
     exact eM [] rfl
    refine Af h (fun g7 h=>ww ?_) (fun g7 h=>ww ?_)
    ·cases h
     exact eM [] rfl
    cases h
    exact eM [] rfl
   refine Af h (fun g8 h=>ww ?_) (fun g8 h=>ww ?_)
   ·cases h
    exact eM [] rfl
   refine Af h (fun g9 h=>ww ?_) (fun g9 h=>ww ?_)
   ·cases h
    exact eM [] rfl
   cases h
   exact eM [] rfl
  refine Af h (fun g10 h=>ww ?_) (fun g10 h=>ww ?_)
  ·refine Af h (fun g11 h=>ww ?_) (fun g11 h=>ww ?_)
   ·cases h
    exact eM [] rfl
   refine Af h (fun g12 h=>ww ?_) (fun g12 h=>ww ?_)
   ·cases h
    exact eM [] rfl
   refine Af h (fun g13 h=>ww ?_) (fun g13 h=>ww ?_)
   ·cases h
    exact eM [] rfl
   cases h
   exact eM [] rfl
  refine Af h (fun g14 h=>ww ?_) (fun g14 h=>ww ?_)
  ·cases h
   exact eM [] rfl
  refine Af h (fun g15 h=>ww ?_) (fun g15 h=>ww ?_)
  ·cases h
   exact eM [] rfl
  cases h
  exact eM [] rfl
 rintro _ rfl
 clear ho
 refine ww ?_
 cases h
 exact eF []
def F204_l1(x0:ByteArray):Nat→Int→Option ((Bool) ⊕ (Unit))
 |0,_=>none
 |k+1,o1_0=>(if o1_0<(x0.size:Int)then(((byI x0 o1_0).bind fun y4=>(if¬(y4=10)then(byI x0 o1_0).bind fun y6=>(if y6<32 then some true else(byI x0 o1_0).bind fun y8=>some (decide (126<y8)))else some false)).bind fun o3=>(if o3=true then(some false).map Sum.inl else F204_l1 x0 k ((IntKind.i64.wrap (o1_0+1)))))else some (Sum.inr (())))
def F204(x0:ByteArray):Option (Bool):=((F204_l1 x0 1099511627776 0:Option ((Bool) ⊕ (Unit))).bind fun o1=>match o1 with|Sum.inl f=>some f|Sum.inr po1=>some (decide ((x0.size:Int)≤200)))
def a204:AFn:=⟨29,[(.tmp 2)],
 (.seq (.reg [Qf 2 false])
 (.seq (.seq (.reg [Qe 3 0])
 (.sem (.block 0 (.loop (.seq (.seq (.reg [Qa 4 3,
Qa 5 0,
sq 6 (.slen (.t 5)),
Qn 7 4 6])
 (.cond (.t 7)
 .skip
 (.exit 0)))
 (.seq (.block 1 (.seq (.sem (.reg [Qa 10 0,
Qa 11 3,
sq 12 (.sidx (.t 10) (.t 11)),
sq 13 (.bin .neq (.t 12) (.k (.c (.d (.v (.int .u8 10)))))),
Qa 14 13,
Qv 15 14 true 0,
Qv 16 14 true 3,
zg 17 14 true (.sidx (.t 15) (.t 16)),
zg 18 14 true (.bin .lss (.t 17) (.k (.c (.d (.v (.int .u8 32)))))),
Qv 19 14 true 18,
Qv 20 19 false 0,
Qv 21 19 false 3,
zg 22 19 false (.sidx (.t 20) (.t 21)),
zg 23 19 false (.bin .gtr (.t 22) (.k (.c (.d (.v (.int .u8 126)))))),
zg 24 14 true (.pick (.t 19) (kB true) (.t 23)),
Qi 25 14 24]))
 (.cond (.t 25)
 (.seq (.reg [Qf 2 false])
 .ret)
 .skip)))
 (.reg [Qa 8 3,
Qm 9 8 1,
Qa 3 9])))))))
 (.seq (.reg [Qa 26 0,
sq 27 (.slen (.t 26)),
sq 28 (.bin .leq (.t 27) (kI 200)),
Qa 2 28])
 .ret)))⟩
theorem F204_ok{x0 r}(h:F204 x0=some r):An Tryz.prog 204 [.c (dS x0)] [] (AL [.c (dB r)]) []:=by
 rw[F204]at h
 refine zc a204 (by kernel_rfl) rfl (ww ?_)
 obtain⟨o1,ho,h⟩:=bi h
 refine AB (fun s=>∃po1,o1=Sum.inr po1∧s=⟨[(0,oc (dS x0))],[]⟩) ?_ ?_
 ·have h0o1:=h
  have h:=ho
  clear ho
  refine ww ?_
  refine bL (fun j s=>∃(o1_0:Int),s=⟨[(0,oc (dS x0)),(3,oc (dI o1_0))],[]⟩∧F204_l1 x0 j o1_0=some o1) 1099511627776 [] ⟨0,rfl,h⟩ ?_
  rintro j _ ⟨o1_0,rfl,h⟩
  cases j with
  |zero=>cases(show(none:Option _)=some _ from h)
  |succ j=>
   rw[F204_l1]at h
   refine ww ?_
   refine AH h (fun c2 h=>ww ?_) (fun c2 h=>?_)
   ·obtain⟨o3,ho,h⟩:=bi h
    refine AB (fun s=>s=⟨[(0,oc (dS x0)),(3,oc (dI o1_0)),(25,oc (dB o3))],[]⟩) ?_ ?_
    ·have h:=ho
     clear ho
     refine ww ?_
     obtain⟨y4,hy4,h⟩:=bi h
     refine Bx rfl rfl hy4 (ww ?_)
     refine Af h (fun g5 h=>ww ?_) (fun g5 h=>?_)
     ·obtain⟨y6,hy6,h⟩:=bi h
      refine Bx rfl rfl hy6 (ww ?_)
      refine Af h (fun g7 h=>ww ?_) (fun g7 h=>?_)
      ·cases h
       exact eM [] rfl
      ·refine ww ?_
       obtain⟨y8,hy8,h⟩:=bi h
       refine Bx rfl rfl hy8 (ww ?_)
       cases h
       exact eM [] rfl
     ·refine ww ?_
      cases h
      exact eM [] rfl
    ·rintro _ rfl
     clear ho
     refine ww ?_
     refine AE h (fun c9 h=>ww ?_) (fun c9 h=>?_)
     ·obtain⟨fh0o1,hfh0o1,rfl⟩:=Option.map_eq_some_iff.1 h
      have h:=hfh0o1.trans h0o1
      cases h
      exact eF []
     ·refine ww ?_
      exact eL' j [] ⟨(IntKind.i64.wrap (o1_0+1)),rfl,h⟩ (Nat.lt_succ_self _)
   ·refine ww ?_
    cases h
    exact eM [] ⟨_,rfl,rfl⟩
 rintro _ ⟨po1,rfl,rfl⟩
 clear ho
 dsimp only at h
 refine ww ?_
 cases h
 exact eF []
def F194_l1(x0:ByteArray):Nat→Int→Option ((Bool) ⊕ (Unit))
 |0,_=>none
 |k+1,o1_0=>(if o1_0<(x0.size:Int)then(byI x0 o1_0).bind fun y3=>(((if 97≤y3 then(if y3≤122 then some true else(if 65≤y3 then some (decide (y3≤90))else some false))else(if 65≤y3 then some (decide (y3≤90))else some false))).bind fun o4=>(((if(nb o4)=true then(if 48≤y3 then(if¬(y3≤57)then(if¬(y3=45)then(if¬(y3=95)then some (decide (¬(y3=47)))else some false)else some false)else some false)else(if¬(y3=45)then(if¬(y3=95)then some (decide (¬(y3=47)))else some false)else some false))else some false)).bind fun o9=>(if o9=true then(some false).map Sum.inl else F194_l1 x0 k ((IntKind.i64.wrap (o1_0+1))))))else some (Sum.inr (())))
def F194(x0:ByteArray):Option (Bool):=((F194_l1 x0 1099511627776 0:Option ((Bool) ⊕ (Unit))).bind fun o1=>match o1 with|Sum.inl f=>some f|Sum.inr po1=>(((if 1≤(x0.size:Int)then some (decide ((x0.size:Int)≤40))else some false)).bind fun o18=>some o18))
def a194:AFn:=⟨60,[(.tmp 2)],
 (.seq (.reg [Qf 2 false])
 (.seq (.seq (.reg [Qe 3 0])
 (.sem (.block 0 (.loop (.seq (.seq (.reg [Qa 6 3,
Qa 7 0,
sq 8 (.slen (.t 7)),
Qn 9 6 8])
 (.cond (.t 9)
 .skip
 (.exit 0)))
 (.seq (.block 1 (.seq (.reg [Qa 12 0,
Qa 13 3,
sq 14 (.sidx (.t 12) (.t 13)),
Qa 4 14])
 (.seq (.sem (.reg [Qa 15 4,
sq 16 (.bin .geq (.t 15) (.k (.c (.d (.v (.int .u8 97)))))),
Qa 17 16,
Qv 18 17 true 4,
zg 19 17 true (.bin .leq (.t 18) (.k (.c (.d (.v (.int .u8 122)))))),
Qi 20 17 19,
Qa 21 20,
Qv 22 21 false 4,
zg 23 21 false (.bin .geq (.t 22) (.k (.c (.d (.v (.int .u8 65)))))),
Qv 24 21 false 23,
Qv 25 24 true 4,
zg 26 24 true (.bin .leq (.t 25) (.k (.c (.d (.v (.int .u8 90)))))),
zg 27 21 false (.pick (.t 24) (.t 26) (kB false)),
Qj 28 21 27,
Qa 5 28]))
 (.seq (.sem (.reg [Qa 29 5,
Qq 30 29,
Qa 31 30,
Qv 32 31 true 4,
zg 33 31 true (.bin .geq (.t 32) (.k (.c (.d (.v (.int .u8 48)))))),
Qv 34 31 true 33,
Qv 35 34 true 4,
zg 36 34 true (.bin .leq (.t 35) (.k (.c (.d (.v (.int .u8 57)))))),
zg 37 31 true (.pick (.t 34) (.t 36) (kB false)),
zg 38 31 true (.not (.t 37)),
Qi 39 31 38,
Qa 40 39,
Qv 41 40 true 4,
zg 42 40 true (.bin .neq (.t 41) (.k (.c (.d (.v (.int .u8 45)))))),
Qi 43 40 42,
Qa 44 43,
Qv 45 44 true 4,
zg 46 44 true (.bin .neq (.t 45) (.k (.c (.d (.v (.int .u8 95)))))),
Qi 47 44 46,
Qa 48 47,
Qv 49 48 true 4,
zg 50 48 true (.bin .neq (.t 49) (.k (.c (.d (.v (.int .u8 47)))))),
Qi 51 48 50]))
 (.cond (.t 51)
 (.seq (.reg [Qf 2 false])
 .ret)
 .skip)))))
 (.reg [Qa 10 3,
Qm 11 10 1,
Qa 3 11])))))))
 (.seq (.sem (.reg [Qa 52 0,
sq 53 (.slen (.t 52)),
sq 54 (.bin .geq (.t 53) (kI 1)),
Qa 55 54,
Qv 56 55 true 0,
zg 57 55 true (.slen (.t 56)),
zg 58 55 true (.bin .leq (.t 57) (kI 40)),
Qi 59 55 58,
Qa 2 59]))
 .ret)))⟩
theorem F194_ok{x0 r}(h:F194 x0=some r):An Tryz.prog 194 [.c (dS x0)] [] (AL [.c (dB r)]) []:=by
 rw[F194]at h
 refine zc a194 (by kernel_rfl) rfl (ww ?_)
 obtain⟨o1,ho,h⟩:=bi h
 refine AB (fun s=>∃po1,o1=Sum.inr po1∧s=⟨[(0,oc (dS x0))],[]⟩) ?_ ?_
 ·have h0o1:=h
  have h:=ho
  clear ho
  refine ww ?_
  refine bL (fun j s=>∃(o1_0:Int),s=⟨[(0,oc (dS x0)),(3,oc (dI o1_0))],[]⟩∧F194_l1 x0 j o1_0=some o1) 1099511627776 [] ⟨0,rfl,h⟩ ?_
  rintro j _ ⟨o1_0,rfl,h⟩
  cases j with
  |zero=>cases(show(none:Option _)=some _ from h)
  |succ j=>
   rw[F194_l1]at h
   refine ww ?_
   refine AH h (fun c2 h=>ww ?_) (fun c2 h=>?_)
   ·obtain⟨y3,hy3,h⟩:=bi h
    refine Bx rfl rfl hy3 (ww ?_)
    obtain⟨o4,ho,h⟩:=bi h
    refine AB (fun s=>s=⟨[(0,oc (dS x0)),(3,oc (dI o1_0)),(4,oc (.d (.v (.int .u8 y3)))),(5,oc (dB o4))],[]⟩) ?_ ?_
    ·have h:=ho
     clear ho
     refine ww ?_
     refine Af h (fun g5 h=>ww ?_) (fun g5 h=>?_)
     ·refine Af h (fun g6 h=>ww ?_) (fun g6 h=>?_)
      ·cases h
       exact eM [] rfl
      ·refine ww ?_
       refine Af h (fun g7 h=>ww ?_) (fun g7 h=>?_)
       ·cases h
        exact eM [] rfl
       ·refine ww ?_
        cases h
        exact eM [] rfl
     ·refine ww ?_
      refine Af h (fun g8 h=>ww ?_) (fun g8 h=>?_)
      ·cases h
       exact eM [] rfl
      ·refine ww ?_
       cases h
       exact eM [] rfl
    ·rintro _ rfl
     clear ho
     refine ww ?_
     obtain⟨o9,ho,h⟩:=bi h
     refine AB (fun s=>s=⟨[(0,oc (dS x0)),(3,oc (dI o1_0)),(51,oc (dB o9))],[]⟩) ?_ ?_
     ·have h:=ho
      clear ho
      refine ww ?_
      refine AM h (fun g10 h=>ww ?_) (fun g10 h=>?_)
      ·refine Af h (fun g11 h=>ww ?_) (fun g11 h=>?_)
       ·refine Af h (fun g12 h=>ww ?_) (fun g12 h=>?_)
        ·refine Af h (fun g13 h=>ww ?_) (fun g13 h=>?_)
         ·refine Af h (fun g14 h=>ww ?_) (fun g14 h=>?_)
          ·cases h
           exact eM [] rfl
          ·refine ww ?_
           cases h
           exact eM [] rfl
         ·refine ww ?_
          cases h
          exact eM [] rfl
        ·refine ww ?_
         cases h
         exact eM [] rfl
       ·refine ww ?_
        refine Af h (fun g15 h=>ww ?_) (fun g15 h=>?_)
        ·refine Af h (fun g16 h=>ww ?_) (fun g16 h=>?_)
         ·cases h
          exact eM [] rfl
         ·refine ww ?_
          cases h
          exact eM [] rfl
        ·refine ww ?_
         cases h
         exact eM [] rfl
      ·refine ww ?_
       cases h
       exact eM [] rfl
     ·rintro _ rfl
      clear ho
      refine ww ?_
      refine AE h (fun c17 h=>ww ?_) (fun c17 h=>?_)
      ·obtain⟨fh0o1,hfh0o1,rfl⟩:=Option.map_eq_some_iff.1 h
       have h:=hfh0o1.trans h0o1
       cases h
       exact eF []
      ·refine ww ?_
       exact eL' j [] ⟨(IntKind.i64.wrap (o1_0+1)),rfl,h⟩ (Nat.lt_succ_self _)
   ·refine ww ?_
    cases h
    exact eM [] ⟨_,rfl,rfl⟩
 rintro _ ⟨po1,rfl,rfl⟩
 clear ho
 dsimp only at h
 refine ww ?_
 obtain⟨o18,ho,h⟩:=bi h
 refine AB (fun s=>s=⟨[(2,oc (dB o18))],[]⟩) ?_ ?_
 ·have h:=ho
  clear ho
  refine ww ?_
  refine Af h (fun g19 h=>ww ?_) (fun g19 h=>ww ?_)
  ·cases h
   exact eM [] rfl
  cases h
  exact eM [] rfl
 rintro _ rfl
 clear ho
 refine ww ?_
 cases h
 exact eF []
theorem a60_ok:afn Tryz.prog 60=some (Eo 3 48):=by kernel_rfl
theorem F60_ok{x0 r:List Ah}(h:BI x0=some r):An Tryz.prog 60 [.c (dM (x0.map Al))] [] (AL [.c (.own 0 1 0 r.length none)]) [some (.arr 1 3 (r.map Al))]:=EZ a60_ok (fun _=>rfl) h
theorem a61_ok:afn Tryz.prog 61=some (Eo 1 16):=by kernel_rfl
theorem F61_ok{x0 r:List ByteArray}(h:BI x0=some r):An Tryz.prog 61 [.c (dM (x0.map eS))] [] (AL [.c (.own 0 1 0 r.length none)]) [some (.arr 1 1 (r.map eS))]:=EZ a61_ok (fun _=>rfl) h
def F155(x0:Int):Option (Bool):=(((if 97≤x0 then(if x0≤122 then some true else(if 48≤x0 then(if x0≤57 then some true else(if x0=45 then some true else(if x0=46 then some true else some (decide (x0=47)))))else(if x0=45 then some true else(if x0=46 then some true else some (decide (x0=47))))))else(if 48≤x0 then(if x0≤57 then some true else(if x0=45 then some true else(if x0=46 then some true else some (decide (x0=47)))))else(if x0=45 then some true else(if x0=46 then some true else some (decide (x0=47))))))).bind fun o1=>some o1)
def a155:AFn:=⟨29,[(.tmp 2)],
 (.seq (.reg [Qf 2 false])
 (.seq (.sem (.reg [Qa 3 0,
sq 4 (.bin .geq (.t 3) (.k (.c (.d (.v (.int .u8 97)))))),
Qa 5 4,
Qv 6 5 true 0,
zg 7 5 true (.bin .leq (.t 6) (.k (.c (.d (.v (.int .u8 122)))))),
Qi 8 5 7,
Qa 9 8,
Qv 10 9 false 0,
zg 11 9 false (.bin .geq (.t 10) (.k (.c (.d (.v (.int .u8 48)))))),
Qv 12 9 false 11,
Qv 13 12 true 0,
zg 14 12 true (.bin .leq (.t 13) (.k (.c (.d (.v (.int .u8 57)))))),
zg 15 9 false (.pick (.t 12) (.t 14) (kB false)),
Qj 16 9 15,
Qa 17 16,
Qv 18 17 false 0,
zg 19 17 false (.bin .eql (.t 18) (.k (.c (.d (.v (.int .u8 45)))))),
Qj 20 17 19,
Qa 21 20,
Qv 22 21 false 0,
zg 23 21 false (.bin .eql (.t 22) (.k (.c (.d (.v (.int .u8 46)))))),
Qj 24 21 23,
Qa 25 24,
Qv 26 25 false 0,
zg 27 25 false (.bin .eql (.t 26) (.k (.c (.d (.v (.int .u8 47)))))),
Qj 28 25 27,
Qa 2 28]))
 .ret))⟩
theorem F155_ok{x0 r}(h:F155 x0=some r):An Tryz.prog 155 [.c (.d (.v (.int .u8 x0)))] [] (AL [.c (dB r)]) []:=by
 rw[F155]at h
 refine zc a155 (by kernel_rfl) rfl (ww ?_)
 obtain⟨o1,ho,h⟩:=bi h
 refine AB (fun s=>s=⟨[(2,oc (dB o1))],[]⟩) ?_ ?_
 ·have h:=ho
  clear ho
  refine ww ?_
  refine Af h (fun g2 h=>ww ?_) (fun g2 h=>ww ?_)
  ·refine Af h (fun g3 h=>ww ?_) (fun g3 h=>ww ?_)
   ·cases h
    exact eM [] rfl
   refine Af h (fun g4 h=>ww ?_) (fun g4 h=>ww ?_)
   ·refine Af h (fun g5 h=>ww ?_) (fun g5 h=>ww ?_)
    ·cases h
     exact eM [] rfl
    refine Af h (fun g6 h=>ww ?_) (fun g6 h=>ww ?_)
    ·cases h
     exact eM [] rfl
    refine Af h (fun g7 h=>ww ?_) (fun g7 h=>ww ?_)
    ·cases h
     exact eM [] rfl
    cases h
    exact eM [] rfl
   refine Af h (fun g8 h=>ww ?_) (fun g8 h=>ww ?_)
   ·cases h
    exact eM [] rfl
   refine Af h (fun g9 h=>ww ?_) (fun g9 h=>ww ?_)
   ·cases h
    exact eM [] rfl
   cases h
   exact eM [] rfl
  refine Af h (fun g10 h=>ww ?_) (fun g10 h=>ww ?_)
  ·refine Af h (fun g11 h=>ww ?_) (fun g11 h=>ww ?_)
   ·cases h
    exact eM [] rfl
   refine Af h (fun g12 h=>ww ?_) (fun g12 h=>ww ?_)
   ·cases h
    exact eM [] rfl
   refine Af h (fun g13 h=>ww ?_) (fun g13 h=>ww ?_)
   ·cases h
    exact eM [] rfl
   cases h
   exact eM [] rfl
  refine Af h (fun g14 h=>ww ?_) (fun g14 h=>ww ?_)
  ·cases h
   exact eM [] rfl
  refine Af h (fun g15 h=>ww ?_) (fun g15 h=>ww ?_)
  ·cases h
   exact eM [] rfl
  cases h
  exact eM [] rfl
 rintro _ rfl
 clear ho
 refine ww ?_
 cases h
 exact eF []
def F59(x0:ByteArray)(x1:ByteArray)(x2:ByteArray):Option (ByteArray):=(KZ x0 ((⟨#[47]⟩:ByteArray))).bind fun s1=>(KZ s1 x1).bind fun s2=>(KZ s2 ((⟨#[47]⟩:ByteArray))).bind fun s3=>(KZ s3 x2).bind fun s4=>some s4
def a59:AFn:=⟨14,[(.tmp 6)],
 (.seq (.reg [sq 6 (.mv (kS ⟨#[]⟩))])
 (.seq (.reg [Qa 7 0,
sq 8 (.bin .add (.t 7) (kS ⟨#[47]⟩)),
Qa 9 1,
sq 10 (.bin .add (.t 8) (.t 9)),
sq 11 (.bin .add (.t 10) (kS ⟨#[47]⟩)),
Qa 12 2,
sq 13 (.bin .add (.t 11) (.t 12)),
Qa 6 13])
 .ret))⟩
theorem F59_ok{x0 x1 x2 r}(h:F59 x0 x1 x2=some r):An Tryz.prog 59 [.c (dS x0),.c (dS x1),.c (dS x2)] [] (AL [.c (dS r)]) []:=by
 rw[F59]at h
 refine zc a59 (by kernel_rfl) rfl (ww ?_)
 obtain⟨s1,hs1,h⟩:=bi h
 obtain⟨hle,es1⟩:=EN hs1
 refine⟨hle,?_⟩
 first|rw[←es1]|subst es1
 refine ww ?_
 obtain⟨s2,hs2,h⟩:=bi h
 obtain⟨hle,es2⟩:=EN hs2
 refine⟨hle,?_⟩
 first|rw[←es2]|subst es2
 refine ww ?_
 obtain⟨s3,hs3,h⟩:=bi h
 obtain⟨hle,es3⟩:=EN hs3
 refine⟨hle,?_⟩
 first|rw[←es3]|subst es3
 refine ww ?_
 obtain⟨s4,hs4,h⟩:=bi h
 obtain⟨hle,es4⟩:=EN hs4
 refine⟨hle,?_⟩
 first|rw[←es4]|subst es4
 refine ww ?_
 cases h
 exact eF []
theorem a65_ok:afn Tryz.prog 65=some (Eo 2 32):=by kernel_rfl
theorem F65_ok{x0 r:List Label}(h:BI x0=some r):An Tryz.prog 65 [.c (dM (x0.map AY))] [] (AL [.c (.own 0 1 0 r.length none)]) [some (.arr 1 2 (r.map AY))]:=EZ a65_ok (fun _=>rfl) h
theorem a99_ok:afn Tryz.prog 99=some (Eo 5 80):=by kernel_rfl
theorem F99_ok{x0 r:List Ab}(h:BI x0=some r):An Tryz.prog 99 [.c (dM (x0.map Ap))] [] (AL [.c (.own 0 1 0 r.length none)]) [some (.arr 1 5 (r.map Ap))]:=EZ a99_ok (fun _=>by rw[Cq];rfl) h
theorem a183_ok:afn Tryz.prog 183=some (Im 23 352 [.v (.string ⟨#[]⟩),.v (.string ⟨#[]⟩),.v (.string ⟨#[]⟩),.v (.int .i64 0),.v (.int .i64 0),.v (.int .i64 0),.v (.int .i64 0),.v (.bool false),.v (.int .i64 0),.sl [],.sl [],.sl [],.sl [],.v (.int .i64 0),.v (.int .i64 0),.v (.string ⟨#[]⟩),.sl [],.sl [],.v (.int .i64 0),.v (.int .i64 0),.v (.string ⟨#[]⟩),.sl [],.sl []]):=by kernel_rfl
theorem F183_ok{x0 r:List Object}{i j:Int}{e0:Nat}(h:Tv x0 i j=some r):An Tryz.prog 183 [.c (.own 0 e0 0 x0.length none),aI i,aI j] [some (.arr e0 23 (x0.map Ad))] (AL [.c (.own 0 (e0+1) 0 r.length none)]) [some (.arr (e0+1) 23 (r.map Ad))]:=VJ a183_ok (fun _=>rfl) h
noncomputable def Ym:Func:=(Tryz.prog.funcs[200]?).getD default
theorem Vc:Tryz.prog.funcs[200]? =some Ym:=by kernel_rfl
theorem Yi(e0 e1 o0 o1 l0 l1:Nat)(c0 c1:Option Nat)(r0 r1:List (List D)):
 An Tryz.prog 200 [.c (.own 0 e0 o0 l0 c0),.c (.own 1 e1 o1 l1 c1)] [some (.arr e0 23 r0),some (.arr e1 23 r1)] (.one (aB false)) [some (.arr e0 23 r0),some (.arr e1 23 r1)]:=
 Te (tS:=25) (tT:=4) (e:=44) (ps:= #[25,25]) (rs:= #[4]) Vc (by kernel_rfl) (by kernel_rfl) (by kernel_rfl) (by kernel_rfl) rfl rfl (by kernel_rfl) (by kernel_rfl) e0 e1 o0 o1 l0 l1 c0 c1 r0 r1
def F190_l1(x1:ByteArray):List Label→Nat→Option ((ByteArray×Bool) ⊕ (Unit))
 |[],o1_0=>some (Sum.inr (()))
 |xo1::xs,o1_0=>(if xo1.Key=x1 then(some ((xo1.Value,true))).map Sum.inl else F190_l1 x1 xs (o1_0+1))
def F190(x0:(List Label))(x1:ByteArray):Option (ByteArray×Bool):=(((ck (0≤x0.length∧x0.length≤4294967290)).bind fun u4=>F190_l1 x1 x0 0:Option ((ByteArray×Bool) ⊕ (Unit))).bind fun o1=>match o1 with|Sum.inl f=>some f|Sum.inr po1=>some (((⟨#[]⟩:ByteArray),false)))
def a190:AFn:=⟨21,[(.tmp 4),(.tmp 5)],
 (.seq (.reg [sq 4 (.mv (kS ⟨#[]⟩)),
Qf 5 false])
 (.seq (.seq (.reg [Qa 8 0,
Qh 9 8,
Qe 10 0])
 (.sem (.block 0 (.loop (.seq (.reg [Qn 11 10 9])
 (.seq (.cond (.t 11)
 .skip
 (.exit 0))
 (.seq (.block 1 (.seq (.reg [Qp 12 2 8 10,
Qc 13 2 12,
sq 7 (.zbox [dS ⟨#[]⟩,dS ⟨#[]⟩]),
su (.store 2 (.t 7) (.t 13))])
 (.seq (.reg [Qb 14 0 7,
Qd 15 14,
Qa 16 1,
sq 17 (.bin .eql (.t 15) (.t 16))])
 (.cond (.t 17)
 (.seq (.reg [Qb 18 1 7,
Qd 19 18,
Qa 4 19,
Qf 5 true])
 .ret)
 .skip))))
 (.reg [Qm 20 10 1,
Qa 10 20]))))))))
 (.seq (.reg [sq 4 (.mv (kS ⟨#[]⟩)),
Qf 5 false])
 .ret)))⟩
theorem F190_ok{x0 x1 r}(h:F190 x0 x1=some r):An Tryz.prog 190 [.c (dM (x0.map AY)),.c (dS x1)] [] (AL [.c (dS r.1),.c (dB r.2)]) []:=by
 rw[F190]at h
 refine zc a190 (by kernel_rfl) rfl (ww ?_)
 obtain⟨o1,ho,h⟩:=bi h
 refine AB (fun s=>∃po1,o1=Sum.inr po1∧s=⟨[],[]⟩) ?_ ?_
 ·have h0o1:=h
  have h:=ho
  clear ho
  obtain⟨_,hk,h⟩:=bi h
  have hk:=AS hk
  refine ww ?_
  refine bL (fun j s=>∃(o1_0:Nat),(o1_0≤x0.length∧j=x0.length-o1_0)∧s=⟨[(1,oc (dS x1)),(8,oc (dM (x0.map AY))),(9,oc (dI ((x0.length:Int)))),(10,oc (dI ((o1_0:Int))))],[]⟩∧F190_l1 x1 (x0.drop o1_0) o1_0=some o1) (x0.length-0) [] ⟨0,⟨hk.1,rfl⟩,rfl,h⟩ ?_
  rintro _ _ ⟨o1_0,⟨hi,rfl⟩,rfl,h⟩
  refine ww ?_
  refine Bg (fun c2=>?_) (fun c2=>?_)
  ·obtain⟨xo1,hxo1,hd⟩:=A5 (show(o1_0:Int)<(x0.length:Int)from c2)
   rw[hd,F190_l1]at h
   refine ww ?_
   refine Az (enc:=AY) (xs:=x0) rfl rfl hxo1 rfl (ww ?_)
   refine AH h (fun c3 h=>ww ?_) (fun c3 h=>ww ?_)
   ·obtain⟨fh0o1,hfh0o1,rfl⟩:=Option.map_eq_some_iff.1 h
    have h:=hfh0o1.trans h0o1
    cases h
    exact eF []
   rw[AW (by omega)]
   exact eL' (x0.length-(o1_0+1)) [] ⟨o1_0+1,⟨by omega,rfl⟩,rfl,h⟩ (by omega)
  rw[A6 (show¬((o1_0:Int)<(x0.length:Int))from c2),F190_l1]at h
  refine ww ?_
  cases h
  exact eM [] ⟨_,rfl,rfl⟩
 rintro _ ⟨po1,rfl,rfl⟩
 clear ho
 dsimp only at h
 refine ww ?_
 cases h
 exact eF []
def F203_l1(x1:ByteArray):List ByteArray→Nat→Option ((Int) ⊕ (Unit))
 |[],o1_0=>some (Sum.inr (()))
 |xo1::xs,o1_0=>(if x1=xo1 then(some ((o1_0:Int))).map Sum.inl else F203_l1 x1 xs (o1_0+1))
def F203(x0:(List ByteArray))(x1:ByteArray):Option (Int):=(((ck (0≤x0.length∧x0.length≤4294967290)).bind fun u4=>F203_l1 x1 x0 0:Option ((Int) ⊕ (Unit))).bind fun o1=>match o1 with|Sum.inl f=>some f|Sum.inr po1=>some ((-1)))
def a203:AFn:=⟨19,[(.tmp 4)],
 (.seq (.reg [Qe 4 0])
 (.seq (.seq (.reg [Qa 6 0,
Qh 7 6,
Qe 8 0])
 (.sem (.block 0 (.loop (.seq (.reg [Qn 9 8 7])
 (.seq (.cond (.t 9)
 .skip
 (.exit 0))
 (.seq (.block 1 (.seq (.reg [Qa 10 8,
Qa 5 10])
 (.seq (.reg [Qa 11 1,
Qa 12 0,
Qa 13 5,
Qp 14 1 12 13,
Qd 15 14,
sq 16 (.bin .eql (.t 11) (.t 15))])
 (.cond (.t 16)
 (.seq (.reg [Qa 17 5,
Qa 4 17])
 .ret)
 .skip))))
 (.reg [Qm 18 8 1,
Qa 8 18]))))))))
 (.seq (.reg [sq 4 (.mv (kI (-1)))])
 .ret)))⟩
theorem F203_ok{x0 x1 r}(h:F203 x0 x1=some r):An Tryz.prog 203 [.c (dM (x0.map eS)),.c (dS x1)] [] (AL [.c (dI r)]) []:=by
 rw[F203]at h
 refine zc a203 (by kernel_rfl) rfl (ww ?_)
 obtain⟨o1,ho,h⟩:=bi h
 refine AB (fun s=>∃po1,o1=Sum.inr po1∧s=⟨[],[]⟩) ?_ ?_
 ·have h0o1:=h
  have h:=ho
  clear ho
  obtain⟨_,hk,h⟩:=bi h
  have hk:=AS hk
  refine ww ?_
  refine bL (fun j s=>∃(o1_0:Nat),(o1_0≤x0.length∧j=x0.length-o1_0)∧s=⟨[(0,oc (dM (x0.map eS))),(1,oc (dS x1)),(7,oc (dI ((x0.length:Int)))),(8,oc (dI ((o1_0:Int))))],[]⟩∧F203_l1 x1 (x0.drop o1_0) o1_0=some o1) (x0.length-0) [] ⟨0,⟨hk.1,rfl⟩,rfl,h⟩ ?_
  rintro _ _ ⟨o1_0,⟨hi,rfl⟩,rfl,h⟩
  refine ww ?_
  refine Bg (fun c2=>?_) (fun c2=>?_)
  ·obtain⟨xo1,hxo1,hd⟩:=A5 (show(o1_0:Int)<(x0.length:Int)from c2)
   rw[hd,F203_l1]at h
   refine ww ?_
   refine Az (enc:=eS) (xs:=x0) rfl rfl hxo1 rfl (ww ?_)
   refine AH h (fun c3 h=>ww ?_) (fun c3 h=>ww ?_)
   ·obtain⟨fh0o1,hfh0o1,rfl⟩:=Option.map_eq_some_iff.1 h
    have h:=hfh0o1.trans h0o1
    cases h
    exact eF []
   rw[AW (by omega)]
   exact eL' (x0.length-(o1_0+1)) [] ⟨o1_0+1,⟨by omega,rfl⟩,rfl,h⟩ (by omega)
  rw[A6 (show¬((o1_0:Int)<(x0.length:Int))from c2),F203_l1]at h
  refine ww ?_
  cases h
  exact eM [] ⟨_,rfl,rfl⟩
 rintro _ ⟨po1,rfl,rfl⟩
 clear ho
 dsimp only at h
 refine ww ?_
 cases h
 exact eF []
def F176_l1(x0:ByteArray):Nat→Int→Option ((Bool) ⊕ (Unit))
 |0,_=>none
 |k+1,o1_0=>(if o1_0<(x0.size:Int)then(byI x0 o1_0).bind fun y3=>(((if 97≤y3 then(if y3≤122 then some false else(if 48≤y3 then(if y3≤57 then some false else some (decide (¬(y3=45))))else some (decide (¬(y3=45)))))else(if 48≤y3 then(if y3≤57 then some false else some (decide (¬(y3=45))))else some (decide (¬(y3=45)))))).bind fun o4=>(if o4=true then(some false).map Sum.inl else F176_l1 x0 k ((IntKind.i64.wrap (o1_0+1)))))else some (Sum.inr (())))
def F176(x0:ByteArray):Option (Bool):=((F176_l1 x0 1099511627776 0:Option ((Bool) ⊕ (Unit))).bind fun o1=>match o1 with|Sum.inl f=>some f|Sum.inr po1=>(((if 1≤(x0.size:Int)then(if(x0.size:Int)≤40 then(byI x0 0).bind fun y15=>(if¬(y15=45)then(byI x0 ((IntKind.i64.wrap (((x0.size:Int))-1)))).bind fun y17=>some (decide (¬(y17=45)))else some false)else some false)else some false)).bind fun o12=>some o12))
def a176:AFn:=⟨54,[(.tmp 2)],
 (.seq (.reg [Qf 2 false])
 (.seq (.seq (.reg [Qa 5 0,
sq 6 (.slen (.t 5)),
Qe 7 0])
 (.sem (.block 0 (.loop (.seq (.reg [Qn 8 7 6])
 (.seq (.cond (.t 8)
 .skip
 (.exit 0))
 (.seq (.block 1 (.seq (.reg [Qa 9 7,
Qa 3 9])
 (.seq (.reg [Qa 10 0,
Qa 11 3,
sq 12 (.sidx (.t 10) (.t 11)),
Qa 4 12])
 (.seq (.sem (.reg [Qa 13 4,
sq 14 (.bin .geq (.t 13) (.k (.c (.d (.v (.int .u8 97)))))),
Qa 15 14,
Qv 16 15 true 4,
zg 17 15 true (.bin .leq (.t 16) (.k (.c (.d (.v (.int .u8 122)))))),
Qi 18 15 17,
Qa 19 18,
Qv 20 19 false 4,
zg 21 19 false (.bin .geq (.t 20) (.k (.c (.d (.v (.int .u8 48)))))),
Qv 22 19 false 21,
Qv 23 22 true 4,
zg 24 22 true (.bin .leq (.t 23) (.k (.c (.d (.v (.int .u8 57)))))),
zg 25 19 false (.pick (.t 22) (.t 24) (kB false)),
Qj 26 19 25,
Qa 27 26,
Qv 28 27 false 4,
zg 29 27 false (.bin .eql (.t 28) (.k (.c (.d (.v (.int .u8 45)))))),
Qj 30 27 29,
Qq 31 30]))
 (.cond (.t 31)
 (.seq (.reg [Qf 2 false])
 .ret)
 .skip)))))
 (.reg [Qm 32 7 1,
Qa 7 32]))))))))
 (.seq (.sem (.reg [Qa 33 0,
sq 34 (.slen (.t 33)),
sq 35 (.bin .geq (.t 34) (kI 1)),
Qa 36 35,
Qv 37 36 true 0,
zg 38 36 true (.slen (.t 37)),
zg 39 36 true (.bin .leq (.t 38) (kI 40)),
Qi 40 36 39,
Qa 41 40,
Qv 42 41 true 0,
zg 43 41 true (.sidx (.t 42) (kI 0)),
zg 44 41 true (.bin .neq (.t 43) (.k (.c (.d (.v (.int .u8 45)))))),
Qi 45 41 44,
Qa 46 45,
Qv 47 46 true 0,
Qv 48 46 true 0,
zg 49 46 true (.slen (.t 48)),
zg 50 46 true (.bin .sub (.t 49) (kI 1)),
zg 51 46 true (.sidx (.t 47) (.t 50)),
zg 52 46 true (.bin .neq (.t 51) (.k (.c (.d (.v (.int .u8 45)))))),
Qi 53 46 52,
Qa 2 53]))
 .ret)))⟩
theorem F176_ok{x0 r}(h:F176 x0=some r):An Tryz.prog 176 [.c (dS x0)] [] (AL [.c (dB r)]) []:=by
 rw[F176]at h
 refine zc a176 (by kernel_rfl) rfl (ww ?_)
 obtain⟨o1,ho,h⟩:=bi h
 refine AB (fun s=>∃po1,o1=Sum.inr po1∧s=⟨[(0,oc (dS x0))],[]⟩) ?_ ?_
 ·have h0o1:=h
  have h:=ho
  clear ho
  refine ww ?_
  refine bL (fun j s=>∃(o1_0:Int),s=⟨[(0,oc (dS x0)),(6,oc (dI ((x0.size:Int)))),(7,oc (dI o1_0))],[]⟩∧F176_l1 x0 j o1_0=some o1) 1099511627776 [] ⟨0,rfl,h⟩ ?_
  rintro j _ ⟨o1_0,rfl,h⟩
  cases j with
  |zero=>cases(show(none:Option _)=some _ from h)
  |succ j=>
   rw[F176_l1]at h
   refine ww ?_
   refine AH h (fun c2 h=>ww ?_) (fun c2 h=>?_)
   ·obtain⟨y3,hy3,h⟩:=bi h
    refine Bx rfl rfl hy3 (ww ?_)
    obtain⟨o4,ho,h⟩:=bi h
    refine AB (fun s=>s=⟨[(0,oc (dS x0)),(6,oc (dI ((x0.size:Int)))),(7,oc (dI o1_0)),(31,oc (dB o4))],[]⟩) ?_ ?_
    ·have h:=ho
     clear ho
     refine ww ?_
     refine Af h (fun g5 h=>ww ?_) (fun g5 h=>?_)
     ·refine Af h (fun g6 h=>ww ?_) (fun g6 h=>?_)
      ·cases h
       exact eM [] rfl
      ·refine ww ?_
       refine Af h (fun g7 h=>ww ?_) (fun g7 h=>?_)
       ·refine Af h (fun g8 h=>ww ?_) (fun g8 h=>?_)
        ·cases h
         exact eM [] rfl
        ·refine ww ?_
         cases h
         exact eM [] rfl
       ·refine ww ?_
        cases h
        exact eM [] rfl
     ·refine ww ?_
      refine Af h (fun g9 h=>ww ?_) (fun g9 h=>?_)
      ·refine Af h (fun g10 h=>ww ?_) (fun g10 h=>?_)
       ·cases h
        exact eM [] rfl
       ·refine ww ?_
        cases h
        exact eM [] rfl
      ·refine ww ?_
       cases h
       exact eM [] rfl
    ·rintro _ rfl
     clear ho
     refine ww ?_
     refine AE h (fun c11 h=>ww ?_) (fun c11 h=>?_)
     ·obtain⟨fh0o1,hfh0o1,rfl⟩:=Option.map_eq_some_iff.1 h
      have h:=hfh0o1.trans h0o1
      cases h
      exact eF []
     ·refine ww ?_
      exact eL' j [] ⟨(IntKind.i64.wrap (o1_0+1)),rfl,h⟩ (Nat.lt_succ_self _)
   ·refine ww ?_
    cases h
    exact eM [] ⟨_,rfl,rfl⟩
 rintro _ ⟨po1,rfl,rfl⟩
 clear ho
 dsimp only at h
 refine ww ?_
 obtain⟨o12,ho,h⟩:=bi h
 refine AB (fun s=>s=⟨[(2,oc (dB o12))],[]⟩) ?_ ?_
 ·have h:=ho
  clear ho
  refine ww ?_
  refine Af h (fun g13 h=>ww ?_) (fun g13 h=>ww ?_)
  ·refine Af h (fun g14 h=>ww ?_) (fun g14 h=>ww ?_)
   ·obtain⟨y15,hy15,h⟩:=bi h
    refine Bx rfl rfl hy15 (ww ?_)
    refine Af h (fun g16 h=>ww ?_) (fun g16 h=>ww ?_)
    ·obtain⟨y17,hy17,h⟩:=bi h
     refine Bx rfl rfl hy17 (ww ?_)
     cases h
     exact eM [] rfl
    cases h
    exact eM [] rfl
   cases h
   exact eM [] rfl
  cases h
  exact eM [] rfl
 rintro _ rfl
 clear ho
 refine ww ?_
 cases h
 exact eF []
theorem a145_ok:afn Tryz.prog 145=some (Eo 25 368):=by kernel_rfl
theorem F145_ok{x0 r:List Change}(h:BI x0=some r):An Tryz.prog 145 [.c (dM (x0.map A9))] [] (AL [.c (.own 0 1 0 r.length none)]) [some (.arr 1 25 (r.map A9))]:=EZ a145_ok (fun _=>rfl) h
def F202(x0:Int):Option (Unit):=some (())
def a202:AFn:=⟨6,[(.tmp 2)],
 (.seq (.reg [Qf 2 false])
 (.seq (.reg [Qa 3 0,
Qa 4 0,
sq 5 (.bin .neq (.t 3) (.t 4)),
Qa 2 5])
 .ret))⟩
theorem F202_ok{x0 r}(h:F202 x0=some r):An Tryz.prog 202 [.c (dI x0)] [] (AL [.c (dB (decide (¬(True))))]) []:=by
 rw[F202]at h
 refine zc a202 (by kernel_rfl) rfl (ww ?_)
 cases h
 exact eF []
def F187_l1(rc115:Ab→Ab→Option (Int))(x1:(List Ab)):List Ab→Nat→Option ((Int) ⊕ (Unit))
 |[],o1_0=>some (Sum.inr (()))
 |xo1::xs,o1_0=>(if(x1.length:Int)≤(o1_0:Int)then(some 1).map Sum.inl else(rdI x1 ((o1_0:Int))).bind fun y4=>(rc115 xo1 y4).bind fun t5=>(if¬(t5=0)then(some t5).map Sum.inl else F187_l1 rc115 x1 xs (o1_0+1)))
def F187(rc115:Ab→Ab→Option (Int))(x0:(List Ab))(x1:(List Ab)):Option (Int):=(((ck (0≤x0.length∧x0.length≤4294967290)).bind fun u7=>F187_l1 rc115 x1 x0 0:Option ((Int) ⊕ (Unit))).bind fun o1=>match o1 with|Sum.inl f=>some f|Sum.inr po1=>(if(x0.length:Int)<(x1.length:Int)then some ((-1))else some 0))
def a187:AFn:=⟨39,[(.tmp 6)],
 (.seq (.reg [Qe 6 0])
 (.seq (.seq (.reg [Qa 11 0,
Qh 12 11,
Qe 13 0])
 (.sem (.block 0 (.loop (.seq (.reg [Qn 14 13 12])
 (.seq (.cond (.t 14)
 .skip
 (.exit 0))
 (.seq (.block 1 (.seq (.reg [Qa 15 13,
Qp 16 5 11 13,
Qc 17 5 16,
sq 8 (.zbox [dI 0,dI 0,dS ⟨#[]⟩,dN,dN]),
Qa 7 15,
su (.store 5 (.t 8) (.t 17))])
 (.seq (.seq (.reg [Qa 18 7,
Qa 19 1,
Qh 20 19,
sq 21 (.bin .geq (.t 18) (.t 20))])
 (.cond (.t 21)
 (.seq (.reg [Qe 6 1])
 .ret)
 .skip))
 (.seq (.reg [Qa 22 1,
Qa 23 7,
Qp 24 5 22 23,
Qc 25 5 24,
sq 9 (.zbox [dI 0,dI 0,dS ⟨#[]⟩,dN,dN]),
su (.store 5 (.t 9) (.t 25))])
 (.seq (.reg [Qa 26 2,
Qc 27 5 8,
Qc 28 5 9,
sq 29 (.callv (.t 26) [(.t 27),(.t 28)]),
Qa 10 29])
 (.seq (.reg [Qa 30 10,
sq 31 (.bin .neq (.t 30) (kI 0))])
 (.cond (.t 31)
 (.seq (.reg [Qa 32 10,
Qa 6 32])
 .ret)
 .skip)))))))
 (.reg [Qm 33 13 1,
Qa 13 33]))))))))
 (.seq (.seq (.reg [Qa 34 0,
Qh 35 34,
Qa 36 1,
Qh 37 36,
Qn 38 35 37])
 (.cond (.t 38)
 (.seq (.reg [sq 6 (.mv (kI (-1)))])
 .ret)
 .skip))
 (.seq (.reg [Qe 6 0])
 .ret))))⟩
theorem F187_ok{rc115:Ab→Ab→Option (Int)}(ih115:∀{x0:Ab} {x1:Ab} {r:Int} (h:rc115 x0 x1=some r),An Tryz.prog 148 [.agg (AJ x0),.agg (AJ x1)] [] (AL [.c (dI r)]) []){x0:(List Ab)}{x1:(List Ab)}{r:Int}(h:F187 rc115 x0 x1=some r):An Tryz.prog 187 [.c (dM (x0.map Ap)),.c (dM (x1.map Ap)),.c (.fn 148 [])] [] (AL [.c (dI r)]) []:=by
 rw[F187]at h
 refine zc a187 (by kernel_rfl) rfl (ww ?_)
 obtain⟨o1,ho,h⟩:=bi h
 refine AB (fun s=>∃po1,o1=Sum.inr po1∧s=⟨[(0,oc (dM (x0.map Ap))),(1,oc (dM (x1.map Ap)))],[]⟩) ?_ ?_
 ·have h0o1:=h
  have h:=ho
  clear ho
  obtain⟨_,hk,h⟩:=bi h
  have hk:=AS hk
  refine ww ?_
  refine bL (fun j s=>∃(o1_0:Nat),(o1_0≤x0.length∧j=x0.length-o1_0)∧s=⟨[(0,oc (dM (x0.map Ap))),(1,oc (dM (x1.map Ap))),(2,oc (.fn 148 [])),(11,oc (dM (x0.map Ap))),(12,oc (dI ((x0.length:Int)))),(13,oc (dI ((o1_0:Int))))],[]⟩∧F187_l1 rc115 x1 (x0.drop o1_0) o1_0=some o1) (x0.length-0) [] ⟨0,⟨hk.1,rfl⟩,rfl,h⟩ ?_
  rintro _ _ ⟨o1_0,⟨hi,rfl⟩,rfl,h⟩
  refine ww ?_
  refine Bg (fun c2=>?_) (fun c2=>?_)
  ·obtain⟨xo1,hxo1,hd⟩:=A5 (show(o1_0:Int)<(x0.length:Int)from c2)
   rw[hd,F187_l1]at h
   refine ww ?_
   refine Az (enc:=Ap) (xs:=x0) rfl rfl hxo1 (by rw[Cq];rfl) (ww ?_)
   refine AH h (fun c3 h=>ww ?_) (fun c3 h=>ww ?_)
   ·obtain⟨fh0o1,hfh0o1,rfl⟩:=Option.map_eq_some_iff.1 h
    have h:=hfh0o1.trans h0o1
    cases h
    exact eF []
   obtain⟨y4,hy4,h⟩:=bi h
   refine Az (enc:=Ap) (xs:=x1) rfl rfl hy4 (by rw[Cq];rfl) (ww ?_)
   obtain⟨t5,ht5,h⟩:=bi h
   refine cN [] (ih115 ht5) trivial (ww ?_)
   refine AH h (fun c6 h=>ww ?_) (fun c6 h=>ww ?_)
   ·obtain⟨fh0o1,hfh0o1,rfl⟩:=Option.map_eq_some_iff.1 h
    have h:=hfh0o1.trans h0o1
    cases h
    exact eF []
   rw[AW (by omega)]
   exact eL' (x0.length-(o1_0+1)) [] ⟨o1_0+1,⟨by omega,rfl⟩,rfl,h⟩ (by omega)
  rw[A6 (show¬((o1_0:Int)<(x0.length:Int))from c2),F187_l1]at h
  refine ww ?_
  cases h
  exact eM [] ⟨_,rfl,rfl⟩
 rintro _ ⟨po1,rfl,rfl⟩
 clear ho
 dsimp only at h
 refine ww ?_
 refine AH h (fun c8 h=>ww ?_) (fun c8 h=>ww ?_)
 ·cases h
  exact eF []
 cases h
 exact eF []
def F149(x0:Meta):Option (Unit):=some (())
def a149:AFn:=⟨10,[(.cell 2 (some 3))],
 (.seq (.reg [Qg 1 0,
sq 2 (.zbox [dS ⟨#[]⟩,dS ⟨#[]⟩,dS ⟨#[]⟩])])
 (.seq (.reg [Qb 3 0 1,
Qd 4 3,
Qb 5 1 1,
Qd 6 5,
Qb 7 2 1,
Qd 8 7,
sq 9 (.build [dS ⟨#[]⟩,dS ⟨#[]⟩,dS ⟨#[]⟩] [(0,1,(.t 4)),(1,1,(.t 6)),(2,1,(.t 8))]),
su (.store 3 (.t 2) (.t 9))])
 .ret))⟩
theorem F149_ok{x0 r}(h:F149 x0=some r):An Tryz.prog 149 [.agg (CT x0)] [] (AL [.agg [dS x0.Kind,dS x0.Namespace,dS x0.Name]]) []:=by
 rw[F149]at h
 refine zc a149 (by kernel_rfl) rfl (ww ?_)
 cases h
 exact eF []
def F151_l2(x1:(List BO)):List BO→Nat→Option ((Bool) ⊕ (Unit))
 |[],o2_0=>some (Sum.inr (()))
 |xo2::xs,o2_0=>(rdI x1 ((o2_0:Int))).bind fun y4=>(if(nb ((decide (xo2.Kind=y4.Kind)&&(decide (xo2.Name=y4.Name)&&(decide (xo2.Uid=y4.Uid)&&((xo2.BL==y4.BL)&&(xo2.Block==y4.Block)))))))=true then(some false).map Sum.inl else F151_l2 x1 xs (o2_0+1))
def F151(x0:(List BO))(x1:(List BO)):Option (Bool):=(if¬((x0.length:Int)=(x1.length:Int))then some false else(((ck (0≤x0.length∧x0.length≤4294967290)).bind fun u6=>F151_l2 x1 x0 0:Option ((Bool) ⊕ (Unit))).bind fun o2=>match o2 with|Sum.inl f=>some f|Sum.inr po2=>some true))
def a151:AFn:=⟨26,[(.tmp 4)],
 (.seq (.reg [Qf 4 false])
 (.seq (.seq (.reg [Qa 6 0,
Qh 7 6,
Qa 8 1,
Qh 9 8,
sq 10 (.bin .neq (.t 7) (.t 9))])
 (.cond (.t 10)
 (.seq (.reg [Qf 4 false])
 .ret)
 .skip))
 (.seq (.seq (.reg [Qa 11 0,
Qh 12 11,
Qe 13 0])
 (.sem (.block 0 (.loop (.seq (.reg [Qn 14 13 12])
 (.seq (.cond (.t 14)
 .skip
 (.exit 0))
 (.seq (.block 1 (.seq (.reg [Qa 15 13,
Qa 5 15])
 (.seq (.regd [Qa 16 0,
Qa 17 5,
sd 18 (.indexA 5 (.t 16) (.t 17)) [0,1],
sd 19 (.load (some 5) (.t 18)) [0,1,2],
Qa 20 1,
Qa 21 5,
sd 22 (.indexA 5 (.t 20) (.t 21)) [4,5],
sd 23 (.load (some 5) (.t 22)) [4,5,6],
zl 24 (.eqs true [(0,2),(1,2),(2,0),(3,1),(4,1)] (.t 19) (.t 23)) [0,1,2,3,4,5,6,7] []])
 (.cond (.t 24)
 (.seq (.reg [Qf 4 false])
 .ret)
 .skip))))
 (.reg [Qm 25 13 1,
Qa 13 25]))))))))
 (.seq (.reg [Qf 4 true])
 .ret))))⟩
theorem F151_ok{x0 x1 r}(h:F151 x0 x1=some r):An Tryz.prog 151 [.c (dM (x0.map A3)),.c (dM (x1.map A3))] [] (AL [.c (dB r)]) []:=by
 rw[F151]at h
 refine zc a151 (by kernel_rfl) rfl (ww ?_)
 refine AH h (fun c1 h=>ww ?_) (fun c1 h=>ww ?_)
 ·cases h
  exact eF []
 obtain⟨o2,ho,h⟩:=bi h
 refine AB (fun s=>∃po2,o2=Sum.inr po2∧s=⟨[],[]⟩) ?_ ?_
 ·have h0o2:=h
  have h:=ho
  clear ho
  obtain⟨_,hk,h⟩:=bi h
  have hk:=AS hk
  refine ww ?_
  refine bL (fun j s=>∃(o2_0:Nat),(o2_0≤x0.length∧j=x0.length-o2_0)∧s=⟨[(0,oc (dM (x0.map A3))),(1,oc (dM (x1.map A3))),(12,oc (dI ((x0.length:Int)))),(13,oc (dI ((o2_0:Int))))],[]⟩∧F151_l2 x1 (x0.drop o2_0) o2_0=some o2) (x0.length-0) [] ⟨0,⟨hk.1,rfl⟩,rfl,h⟩ ?_
  rintro _ _ ⟨o2_0,⟨hi,rfl⟩,rfl,h⟩
  refine ww ?_
  refine Bg (fun c3=>?_) (fun c3=>?_)
  ·obtain⟨xo2,hxo2,hd⟩:=A5 (show(o2_0:Int)<(x0.length:Int)from c3)
   rw[hd,F151_l2]at h
   refine ww ?_
   refine Az (enc:=A3) (xs:=x0) rfl rfl hxo2 rfl (ww ?_)
   obtain⟨y4,hy4,h⟩:=bi h
   refine Az (enc:=A3) (xs:=x1) rfl rfl hy4 rfl (ww ?_)
   refine AE h (fun c5 h=>ww ?_) (fun c5 h=>ww ?_)
   ·obtain⟨fh0o2,hfh0o2,rfl⟩:=Option.map_eq_some_iff.1 h
    have h:=hfh0o2.trans h0o2
    cases h
    exact eF []
   rw[AW (by omega)]
   exact eL' (x0.length-(o2_0+1)) [] ⟨o2_0+1,⟨by omega,rfl⟩,rfl,h⟩ (by omega)
  rw[A6 (show¬((o2_0:Int)<(x0.length:Int))from c3),F151_l2]at h
  refine ww ?_
  cases h
  exact eM [] ⟨_,rfl,rfl⟩
 rintro _ ⟨po2,rfl,rfl⟩
 clear ho
 dsimp only at h
 refine ww ?_
 cases h
 exact eF []
def F126_l1(x1:ByteArray):List ByteArray→Nat→Option ((Bool) ⊕ (Unit))
 |[],o1_0=>some (Sum.inr (()))
 |xo1::xs,o1_0=>(if xo1=x1 then(some true).map Sum.inl else F126_l1 x1 xs (o1_0+1))
def F126(x0:(List ByteArray))(x1:ByteArray):Option (Bool):=(((ck (0≤x0.length∧x0.length≤4294967290)).bind fun u4=>F126_l1 x1 x0 0:Option ((Bool) ⊕ (Unit))).bind fun o1=>match o1 with|Sum.inl f=>some f|Sum.inr po1=>some false)
def a126:AFn:=⟨18,[(.tmp 4)],
 (.seq (.reg [Qf 4 false])
 (.seq (.seq (.reg [Qe 5 0])
 (.sem (.block 0 (.loop (.seq (.seq (.reg [Qa 6 5,
Qa 7 0,
Qh 8 7,
Qn 9 6 8])
 (.cond (.t 9)
 .skip
 (.exit 0)))
 (.seq (.block 1 (.seq (.reg [Qa 12 0,
Qa 13 5,
Qp 14 1 12 13,
Qd 15 14,
Qa 16 1,
sq 17 (.bin .eql (.t 15) (.t 16))])
 (.cond (.t 17)
 (.seq (.reg [Qf 4 true])
 .ret)
 .skip)))
 (.reg [Qa 10 5,
Qm 11 10 1,
Qa 5 11])))))))
 (.seq (.reg [Qf 4 false])
 .ret)))⟩
theorem F126_ok{x0 x1 r}(h:F126 x0 x1=some r):An Tryz.prog 126 [.c (dM (x0.map eS)),.c (dS x1)] [] (AL [.c (dB r)]) []:=by
 rw[F126]at h
 refine zc a126 (by kernel_rfl) rfl (ww ?_)
 obtain⟨o1,ho,h⟩:=bi h
 refine AB (fun s=>∃po1,o1=Sum.inr po1∧s=⟨[],[]⟩) ?_ ?_
 ·have h0o1:=h
  have h:=ho
  clear ho
  obtain⟨_,hk,h⟩:=bi h
  have hk:=AS hk
  refine ww ?_
  refine bL (fun j s=>∃(o1_0:Nat),(o1_0≤x0.length∧j=x0.length-o1_0)∧s=⟨[(0,oc (dM (x0.map eS))),(1,oc (dS x1)),(5,oc (dI ((o1_0:Int))))],[]⟩∧F126_l1 x1 (x0.drop o1_0) o1_0=some o1) (x0.length-0) [] ⟨0,⟨hk.1,rfl⟩,rfl,h⟩ ?_
  rintro _ _ ⟨o1_0,⟨hi,rfl⟩,rfl,h⟩
  refine ww ?_
  refine Bg (fun c2=>?_) (fun c2=>?_)
  ·obtain⟨xo1,hxo1,hd⟩:=A5 (show(o1_0:Int)<(x0.length:Int)from c2)
   rw[hd,F126_l1]at h
   refine ww ?_
   refine Az (enc:=eS) (xs:=x0) rfl rfl hxo1 rfl (ww ?_)
   refine AH h (fun c3 h=>ww ?_) (fun c3 h=>ww ?_)
   ·obtain⟨fh0o1,hfh0o1,rfl⟩:=Option.map_eq_some_iff.1 h
    have h:=hfh0o1.trans h0o1
    cases h
    exact eF []
   rw[AW (by omega)]
   exact eL' (x0.length-(o1_0+1)) [] ⟨o1_0+1,⟨by omega,rfl⟩,rfl,h⟩ (by omega)
  rw[A6 (show¬((o1_0:Int)<(x0.length:Int))from c2),F126_l1]at h
  refine ww ?_
  cases h
  exact eM [] ⟨_,rfl,rfl⟩
 rintro _ ⟨po1,rfl,rfl⟩
 clear ho
 dsimp only at h
 refine ww ?_
 cases h
 exact eF []
end Go.Proofs.YtdkmamiedcanfaaGreat
