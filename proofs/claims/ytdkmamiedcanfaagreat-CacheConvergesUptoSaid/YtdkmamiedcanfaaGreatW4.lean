/- Each Go function as a function over typed data, and its walk. -/
import Derived.Test.YtdkmamiedcanfaaGreatW0
import Derived.Test.YtdkmamiedcanfaaGreatW1
import Derived.Test.YtdkmamiedcanfaaGreatW2
namespace Go.Proofs.YtdkmamiedcanfaaGreat
open Go Go.Fw Go.Shelf
set_option maxRecDepth 100000
set_option maxHeartbeats 4000000
set_option linter.unusedSimpArgs false
set_option linter.unusedVariables false
def F29_l1:List AI→Nat→Int→Option (Int)
 |[],o1_1,o1_0=>some o1_0
 |xo1::xs,o1_1,o1_0=>F29_l1 xs (o1_1+1) ((IntKind.i64.wrap (o1_0+((xo1.Ae.length:Int)))))
def F29(x0:Object):Option (Int):=(((ck (0≤x0.Meta.Aj.length∧x0.Meta.Aj.length≤4294967290)).bind fun u3=>F29_l1 x0.Meta.Aj 0 ((IntKind.i64.wrap (((IntKind.i64.wrap (((IntKind.i64.wrap (((IntKind.i64.wrap (1+((x0.Meta.Ax.length:Int)))))+((x0.Meta.AF.length:Int)))))+((x0.Meta.Au.length:Int)))))+((x0.Meta.Aj.length:Int)))))).bind fun o1=>(F54k 1099511627776 x0.Spec).bind fun t4=>(F54k 1099511627776 x0.Status).bind fun t5=>some ((IntKind.i64.wrap (((IntKind.i64.wrap (o1+t4)))+t5))))
def a29:AFn:=⟨52,[(.tmp 2)],
 (.seq (.reg [Qg 1 0,
Qe 2 0])
 (.seq (.reg [Qb 5 0 1,
Qb 6 9 5,
Qd 7 6,
Qh 8 7,
sq 9 (.bin .add (kI 1) (.t 8)),
Qb 10 0 1,
Qb 11 10 10,
Qd 12 11,
Qh 13 12,
sq 14 (.bin .add (.t 9) (.t 13)),
Qb 15 0 1,
Qb 16 11 15,
Qd 17 16,
Qh 18 17,
sq 19 (.bin .add (.t 14) (.t 18)),
Qb 20 0 1,
Qb 21 12 20,
Qd 22 21,
Qh 23 22,
sq 24 (.bin .add (.t 19) (.t 23)),
Qa 3 24])
 (.seq (.seq (.reg [Qe 4 0])
 (.sem (.block 0 (.loop (.seq (.seq (.reg [Qa 25 4,
Qb 26 0 1,
Qb 27 12 26,
Qd 28 27,
Qh 29 28,
Qn 30 25 29])
 (.cond (.t 30)
 .skip
 (.exit 0)))
 (.seq (.block 1 (.reg [Qa 33 3,
Qb 34 0 1,
Qb 35 12 34,
Qd 36 35,
Qa 37 4,
Qp 38 2 36 37,
Qb 39 1 38,
Qd 40 39,
Qh 41 40,
sq 42 (.bin .add (.t 33) (.t 41)),
Qa 3 42]))
 (.reg [Qa 31 4,
Qm 32 31 1,
Qa 4 32])))))))
 (.seq (.regd [Qa 43 3,
Qb 44 13 1,
sd 45 (.load (some 5) (.t 44)) [1],
zn 46 (.call 54 [(.t 45)]) [1,2] [1,2],
sd 47 (.bin .add (.t 43) (.t 46)) [0,1,2,3],
Qb 48 18 1,
sd 49 (.load (some 5) (.t 48)) [5],
zl 50 (.call 54 [(.t 49)]) [1,2,3,5,6] [],
sd 51 (.bin .add (.t 47) (.t 50)) [0,1,2,3,4,5,6,7],
sd 2 (.mv (.t 51)) [0,1,2,3,4,5,6,7,8]])
 .ret))))⟩
theorem F29_ok{x0 r}(h:F29 x0=some r):An Tryz.prog 29 [.agg (Bc x0)] [] (AL [.c (dI r)]) []:=by
 rw[F29]at h
 refine zc a29 (by kernel_rfl) rfl (ww ?_)
 obtain⟨o1,ho,h⟩:=bi h
 refine AB (fun s=>s=⟨[(1,Pz 0),(3,oc (dI o1))],[xb (Bc x0)]⟩) ?_ ?_
 ·have h:=ho
  clear ho
  obtain⟨_,hk,h⟩:=bi h
  have hk:=AS hk
  refine ww ?_
  refine bL (fun j s=>∃(o1_1:Nat) (o1_0:Int),(o1_1≤x0.Meta.Aj.length∧j=x0.Meta.Aj.length-o1_1)∧s=⟨[(1,Pz 0),(3,oc (dI o1_0)),(4,oc (dI ((o1_1:Int))))],[xb (Bc x0)]⟩∧F29_l1 (x0.Meta.Aj.drop o1_1) o1_1 o1_0=some o1) (x0.Meta.Aj.length-0) [some 0] ⟨0,(IntKind.i64.wrap (((IntKind.i64.wrap (((IntKind.i64.wrap (((IntKind.i64.wrap (1+((x0.Meta.Ax.length:Int)))))+((x0.Meta.AF.length:Int)))))+((x0.Meta.Au.length:Int)))))+((x0.Meta.Aj.length:Int)))),⟨hk.1,rfl⟩,rfl,h⟩ ?_
  rintro _ _ ⟨o1_1,o1_0,⟨hi,rfl⟩,rfl,h⟩
  refine ww ?_
  refine Bg (fun c2=>?_) (fun c2=>?_)
  ·obtain⟨xo1,hxo1,hd⟩:=A5 (show(o1_1:Int)<(x0.Meta.Aj.length:Int)from c2)
   rw[hd,F29_l1]at h
   refine ww ?_
   refine Az (enc:=AG) (xs:=x0.Meta.Aj) rfl rfl hxo1 rfl (ww ?_)
   rw[AW (by omega)]
   exact eL' (x0.Meta.Aj.length-(o1_1+1)) [some 0] ⟨o1_1+1,(IntKind.i64.wrap (o1_0+((xo1.Ae.length:Int)))),⟨by omega,rfl⟩,rfl,h⟩ (by omega)
  rw[A6 (show¬((o1_1:Int)<(x0.Meta.Aj.length:Int))from c2),F29_l1]at h
  refine ww ?_
  cases h
  exact eM [some 0] rfl
 rintro _ rfl
 clear ho
 refine ww ?_
 obtain⟨t4,ht4,h⟩:=bi h
 refine cN [] (F54k_ok 1099511627776 ht4) trivial (ww ?_)
 obtain⟨t5,ht5,h⟩:=bi h
 refine cN [] (F54k_ok 1099511627776 ht5) trivial (ww ?_)
 cases h
 exact eF []
def F39(x0:Meta):Option (ByteArray):=(F70 x0.Kind x0.Namespace x0.Name).bind fun t1=>some t1
def a39:AFn:=⟨10,[(.tmp 2)],
 (.seq (.reg [Qg 1 0,
sq 2 (.mv (kS ⟨#[]⟩))])
 (.seq (.reg [Qb 3 0 1,
Qd 4 3,
Qb 5 1 1,
Qd 6 5,
Qb 7 2 1,
Qd 8 7,
sq 9 (.call 70 [(.t 4),(.t 6),(.t 8)]),
Qa 2 9])
 .ret))⟩
theorem F39_ok{x0 r}(h:F39 x0=some r):An Tryz.prog 39 [.agg (CT x0)] [] (AL [.c (dS r)]) []:=by
 rw[F39]at h
 refine zc a39 (by kernel_rfl) rfl (ww ?_)
 obtain⟨t1,ht1,h⟩:=bi h
 refine cN [] (F70_ok ht1) trivial (ww ?_)
 cases h
 exact eF []
def F121_l2(x0:ByteArray):Nat→Int→Option ((Bool) ⊕ (Unit))
 |0,_=>none
 |k+1,o2_0=>(if o2_0<(x0.size:Int)then(((byI x0 o2_0).bind fun y5=>(F159 y5).bind fun t6=>(if(nb t6)=true then some true else(byI x0 o2_0).bind fun y8=>some (decide (y8=47)))).bind fun o4=>(if o4=true then(some false).map Sum.inl else F121_l2 x0 k ((IntKind.i64.wrap (o2_0+1)))))else some (Sum.inr (())))
def F121(x0:ByteArray):Option (Bool):=(if 40<(x0.size:Int)then some false else((F121_l2 x0 1099511627776 0:Option ((Bool) ⊕ (Unit))).bind fun o2=>match o2 with|Sum.inl f=>some f|Sum.inr po2=>some true))
def a121:AFn:=⟨24,[(.tmp 2)],
 (.seq (.reg [Qf 2 false])
 (.seq (.seq (.reg [Qa 4 0,
sq 5 (.slen (.t 4)),
sq 6 (.bin .gtr (.t 5) (kI 40))])
 (.cond (.t 6)
 (.seq (.reg [Qf 2 false])
 .ret)
 .skip))
 (.seq (.seq (.reg [Qe 3 0])
 (.sem (.block 0 (.loop (.seq (.seq (.reg [Qa 7 3,
Qa 8 0,
sq 9 (.slen (.t 8)),
Qn 10 7 9])
 (.cond (.t 10)
 .skip
 (.exit 0)))
 (.seq (.block 1 (.seq (.sem (.reg [Qa 13 0,
Qa 14 3,
sq 15 (.sidx (.t 13) (.t 14)),
Qk 16 159 15,
Qq 17 16,
Qa 18 17,
Qv 19 18 false 0,
Qv 20 18 false 3,
zg 21 18 false (.sidx (.t 19) (.t 20)),
zg 22 18 false (.bin .eql (.t 21) (.k (.c (.d (.v (.int .u8 47)))))),
Qj 23 18 22]))
 (.cond (.t 23)
 (.seq (.reg [Qf 2 false])
 .ret)
 .skip)))
 (.reg [Qa 11 3,
Qm 12 11 1,
Qa 3 12])))))))
 (.seq (.reg [Qf 2 true])
 .ret))))⟩
theorem F121_ok{x0 r}(h:F121 x0=some r):An Tryz.prog 121 [.c (dS x0)] [] (AL [.c (dB r)]) []:=by
 rw[F121]at h
 refine zc a121 (by kernel_rfl) rfl (ww ?_)
 refine AH h (fun c1 h=>ww ?_) (fun c1 h=>ww ?_)
 ·cases h
  exact eF []
 obtain⟨o2,ho,h⟩:=bi h
 refine AB (fun s=>∃po2,o2=Sum.inr po2∧s=⟨[],[]⟩) ?_ ?_
 ·have h0o2:=h
  have h:=ho
  clear ho
  refine ww ?_
  refine bL (fun j s=>∃(o2_0:Int),s=⟨[(0,oc (dS x0)),(3,oc (dI o2_0))],[]⟩∧F121_l2 x0 j o2_0=some o2) 1099511627776 [] ⟨0,rfl,h⟩ ?_
  rintro j _ ⟨o2_0,rfl,h⟩
  cases j with
  |zero=>cases(show(none:Option _)=some _ from h)
  |succ j=>
   rw[F121_l2]at h
   refine ww ?_
   refine AH h (fun c3 h=>ww ?_) (fun c3 h=>?_)
   ·obtain⟨o4,ho,h⟩:=bi h
    refine AB (fun s=>s=⟨[(0,oc (dS x0)),(3,oc (dI o2_0)),(23,oc (dB o4))],[]⟩) ?_ ?_
    ·have h:=ho
     clear ho
     refine ww ?_
     obtain⟨y5,hy5,h⟩:=bi h
     refine Bx rfl rfl hy5 (ww ?_)
     obtain⟨t6,ht6,h⟩:=bi h
     refine cN [] (F159_ok ht6) trivial (ww ?_)
     refine AM h (fun g7 h=>ww ?_) (fun g7 h=>?_)
     ·cases h
      exact eM [] rfl
     ·refine ww ?_
      obtain⟨y8,hy8,h⟩:=bi h
      refine Bx rfl rfl hy8 (ww ?_)
      cases h
      exact eM [] rfl
    ·rintro _ rfl
     clear ho
     refine ww ?_
     refine AE h (fun c9 h=>ww ?_) (fun c9 h=>?_)
     ·obtain⟨fh0o2,hfh0o2,rfl⟩:=Option.map_eq_some_iff.1 h
      have h:=hfh0o2.trans h0o2
      cases h
      exact eF []
     ·refine ww ?_
      exact eL' j [] ⟨(IntKind.i64.wrap (o2_0+1)),rfl,h⟩ (Nat.lt_succ_self _)
   ·refine ww ?_
    cases h
    exact eM [] ⟨_,rfl,rfl⟩
 rintro _ ⟨po2,rfl,rfl⟩
 clear ho
 dsimp only at h
 refine ww ?_
 cases h
 exact eF []
def F163_l11(o1_1:Nat)(x0:(List BO))(xo1:BO):Nat→Int→Option (((Bool) ⊕ (Int)) ⊕ (Unit))
 |0,_=>none
 |k+1,o11_0=>(if o11_0<(o1_1:Int)then(rdI x0 o11_0).bind fun y13=>(if y13.Uid=xo1.Uid then((some false).map Sum.inl).map Sum.inl else F163_l11 o1_1 x0 xo1 k ((IntKind.i64.wrap (o11_0+1))))else some (Sum.inr (())))
def F163_l1(x0:(List BO)):List BO→Nat→Int→Option ((Bool) ⊕ (Int))
 |[],o1_1,o1_0=>some (Sum.inr o1_0)
 |xo1::xs,o1_1,o1_0=>(((F160 xo1.Kind).bind fun t4=>(if(nb t4)=true then some true else(F161 xo1.Name).bind fun t6=>(if(nb t6)=true then some true else some (decide (xo1.Uid≤0))))).bind fun o3=>(if o3=true then(some false).map Sum.inl else(((if xo1.BL=true then some ((IntKind.i64.wrap (o1_0+1)))else some o1_0)).bind fun o9=>((F163_l11 o1_1 x0 xo1 1099511627776 0:Option (((Bool) ⊕ (Int)) ⊕ (Unit))).bind fun o11=>match o11 with|Sum.inl f=>some f|Sum.inr po11=>F163_l1 x0 xs (o1_1+1) o9))))
def F163(x0:(List BO)):Option (Bool):=(((ck (0≤x0.length∧x0.length≤4294967290)).bind fun u15=>F163_l1 x0 x0 0 0:Option ((Bool) ⊕ (Int))).bind fun o1=>match o1 with|Sum.inl f=>some f|Sum.inr po1=>(((if(x0.length:Int)≤16 then some (decide (po1≤1))else some false)).bind fun o16=>some o16))
def a163:AFn:=⟨66,[(.tmp 2)],
 (.seq (.reg [Qf 2 false])
 (.seq (.reg [Qe 3 0])
 (.seq (.seq (.reg [Qe 4 0])
 (.sem (.block 0 (.loop (.seq (.seq (.reg [Qa 6 4,
Qa 7 0,
Qh 8 7,
Qn 9 6 8])
 (.cond (.t 9)
 .skip
 (.exit 0)))
 (.seq (.block 1 (.seq (.seq (.sem (.reg [Qa 12 0,
Qa 13 4,
Qp 14 5 12 13,
Qb 15 0 14,
Qd 16 15,
Qk 17 160 16,
Qq 18 17,
Qa 19 18,
Qv 20 19 false 0,
Qv 21 19 false 4,
zg 22 19 false (.indexA 5 (.t 20) (.t 21)),
Qs 23 19 false 1 22,
Qt 24 19 false 23,
zg 25 19 false (.call 161 [(.t 24)]),
zg 26 19 false (.not (.t 25)),
Qj 27 19 26,
Qa 28 27,
Qv 29 28 false 0,
Qv 30 28 false 4,
zg 31 28 false (.indexA 5 (.t 29) (.t 30)),
Qs 32 28 false 2 31,
Qt 33 28 false 32,
zg 34 28 false (.bin .leq (.t 33) (kI 0)),
Qj 35 28 34]))
 (.cond (.t 35)
 (.seq (.reg [Qf 2 false])
 .ret)
 .skip))
 (.seq (.sem (.seq (.reg [Qa 36 0,
Qa 37 4,
Qp 38 5 36 37,
Qb 39 3 38,
Qd 40 39])
 (.cond (.t 40)
 (.reg [Qa 41 3,
Qm 42 41 1,
Qa 3 42])
 .skip)))
 (.seq (.reg [Qe 5 0])
 (.sem (.block 2 (.loop (.seq (.seq (.reg [Qa 43 5,
Qa 44 4,
Qn 45 43 44])
 (.cond (.t 45)
 .skip
 (.exit 2)))
 (.seq (.block 3 (.seq (.regd [Qa 48 0,
Qa 49 5,
sd 50 (.indexA 5 (.t 48) (.t 49)) [0,1],
sd 51 (.fieldA 2 (.t 50)) [0,1,2],
sd 52 (.load none (.t 51)) [0,1,2,3],
Qa 53 0,
Qa 54 4,
sd 55 (.indexA 5 (.t 53) (.t 54)) [5,6],
sd 56 (.fieldA 2 (.t 55)) [5,6,7],
sd 57 (.load none (.t 56)) [5,6,7,8],
sd 58 (.bin .eql (.t 52) (.t 57)) [0,1,2,3,4,5,6,7,8,9]])
 (.cond (.t 58)
 (.seq (.reg [Qf 2 false])
 .ret)
 .skip)))
 (.reg [Qa 46 5,
Qm 47 46 1,
Qa 5 47]))))))))))
 (.reg [Qa 10 4,
Qm 11 10 1,
Qa 4 11])))))))
 (.seq (.sem (.reg [Qa 59 0,
Qh 60 59,
sq 61 (.bin .leq (.t 60) (kI 16)),
Qa 62 61,
Qv 63 62 true 3,
zg 64 62 true (.bin .leq (.t 63) (kI 1)),
Qi 65 62 64,
Qa 2 65]))
 .ret))))⟩
theorem F163_ok{x0 r}(h:F163 x0=some r):An Tryz.prog 163 [.c (dM (x0.map A3))] [] (AL [.c (dB r)]) []:=by
 rw[F163]at h
 refine zc a163 (by kernel_rfl) rfl (ww ?_)
 obtain⟨o1,ho,h⟩:=bi h
 refine AB (fun s=>∃po1,o1=Sum.inr po1∧s=⟨[(0,oc (dM (x0.map A3))),(3,oc (dI po1))],[]⟩) ?_ ?_
 ·have h0o1:=h
  have h:=ho
  clear ho
  obtain⟨_,hk,h⟩:=bi h
  have hk:=AS hk
  refine ww ?_
  refine bL (fun j s=>∃(o1_1:Nat) (o1_0:Int),(o1_1≤x0.length∧j=x0.length-o1_1)∧s=⟨[(0,oc (dM (x0.map A3))),(3,oc (dI o1_0)),(4,oc (dI ((o1_1:Int))))],[]⟩∧F163_l1 x0 (x0.drop o1_1) o1_1 o1_0=some o1) (x0.length-0) [] ⟨0,0,⟨hk.1,rfl⟩,rfl,h⟩ ?_
  rintro _ _ ⟨o1_1,o1_0,⟨hi,rfl⟩,rfl,h⟩
  refine ww ?_
  refine Bg (fun c2=>?_) (fun c2=>?_)
  ·obtain⟨xo1,hxo1,hd⟩:=A5 (show(o1_1:Int)<(x0.length:Int)from c2)
   rw[hd,F163_l1]at h
   refine ww ?_
   obtain⟨o3,ho,h⟩:=bi h
   refine AB (fun s=>s=⟨[(0,oc (dM (x0.map A3))),(3,oc (dI o1_0)),(4,oc (dI ((o1_1:Int)))),(35,oc (dB o3))],[]⟩) ?_ ?_
   ·have h:=ho
    clear ho
    refine ww ?_
    refine Az (enc:=A3) (xs:=x0) rfl rfl hxo1 rfl (ww ?_)
    obtain⟨t4,ht4,h⟩:=bi h
    refine cN [] (F160_ok ht4) trivial (ww ?_)
    refine AM h (fun g5 h=>ww ?_) (fun g5 h=>ww ?_)
    ·cases h
     exact eM [] rfl
    refine Az (enc:=A3) (xs:=x0) rfl rfl hxo1 rfl (ww ?_)
    obtain⟨t6,ht6,h⟩:=bi h
    refine cN [] (F161_ok ht6) trivial (ww ?_)
    refine AM h (fun g7 h=>ww ?_) (fun g7 h=>ww ?_)
    ·cases h
     exact eM [] rfl
    refine Az (enc:=A3) (xs:=x0) rfl rfl hxo1 rfl (ww ?_)
    cases h
    exact eM [] rfl
   rintro _ rfl
   clear ho
   refine ww ?_
   refine AE h (fun c8 h=>ww ?_) (fun c8 h=>ww ?_)
   ·obtain⟨fh0o1,hfh0o1,rfl⟩:=Option.map_eq_some_iff.1 h
    have h:=hfh0o1.trans h0o1
    cases h
    exact eF []
   obtain⟨o9,ho,h⟩:=bi h
   refine AB (fun s=>s=⟨[(0,oc (dM (x0.map A3))),(3,oc (dI o9)),(4,oc (dI ((o1_1:Int))))],[]⟩) ?_ ?_
   ·have h:=ho
    clear ho
    refine ww ?_
    refine Az (enc:=A3) (xs:=x0) rfl rfl hxo1 rfl (ww ?_)
    refine AE h (fun c10 h=>ww ?_) (fun c10 h=>ww ?_)
    ·cases h
     exact eM [] rfl
    cases h
    exact eM [] rfl
   rintro _ rfl
   clear ho
   refine ww ?_
   obtain⟨o11,ho,h⟩:=bi h
   refine AB (fun s=>∃po11,o11=Sum.inr po11∧s=⟨[(0,oc (dM (x0.map A3))),(3,oc (dI o9)),(4,oc (dI ((o1_1:Int))))],[]⟩) ?_ ?_
   ·have h0o11:=h
    have h:=ho
    clear ho
    refine ww ?_
    refine bL (fun j s=>∃(o11_0:Int),s=⟨[(0,oc (dM (x0.map A3))),(3,oc (dI o9)),(4,oc (dI ((o1_1:Int)))),(5,oc (dI o11_0))],[]⟩∧F163_l11 o1_1 x0 xo1 j o11_0=some o11) 1099511627776 [] ⟨0,rfl,h⟩ ?_
    rintro j _ ⟨o11_0,rfl,h⟩
    cases j with
    |zero=>cases(show(none:Option _)=some _ from h)
    |succ j=>
     rw[F163_l11]at h
     refine ww ?_
     refine AH h (fun c12 h=>ww ?_) (fun c12 h=>?_)
     ·obtain⟨y13,hy13,h⟩:=bi h
      refine Az (enc:=A3) (xs:=x0) rfl rfl hy13 rfl (ww ?_)
      refine Az (enc:=A3) (xs:=x0) rfl rfl hxo1 rfl (ww ?_)
      refine AH h (fun c14 h=>ww ?_) (fun c14 h=>?_)
      ·obtain⟨fh0o11,hfh0o11,rfl⟩:=Option.map_eq_some_iff.1 h
       have h:=hfh0o11.trans h0o11
       obtain⟨fh0o1,hfh0o1,rfl⟩:=Option.map_eq_some_iff.1 h
       have h:=hfh0o1.trans h0o1
       cases h
       exact eF []
      ·refine ww ?_
       exact eL' j [] ⟨(IntKind.i64.wrap (o11_0+1)),rfl,h⟩ (Nat.lt_succ_self _)
     ·refine ww ?_
      cases h
      exact eM [] ⟨_,rfl,rfl⟩
   rintro _ ⟨po11,rfl,rfl⟩
   clear ho
   dsimp only at h
   refine ww ?_
   rw[AW (by omega)]
   exact eL' (x0.length-(o1_1+1)) [] ⟨o1_1+1,o9,⟨by omega,rfl⟩,rfl,h⟩ (by omega)
  rw[A6 (show¬((o1_1:Int)<(x0.length:Int))from c2),F163_l1]at h
  refine ww ?_
  cases h
  exact eM [] ⟨_,rfl,rfl⟩
 rintro _ ⟨po1,rfl,rfl⟩
 clear ho
 dsimp only at h
 refine ww ?_
 obtain⟨o16,ho,h⟩:=bi h
 refine AB (fun s=>s=⟨[(2,oc (dB o16))],[]⟩) ?_ ?_
 ·have h:=ho
  clear ho
  refine ww ?_
  refine Af h (fun g17 h=>ww ?_) (fun g17 h=>ww ?_)
  ·cases h
   exact eM [] rfl
  cases h
  exact eM [] rfl
 rintro _ rfl
 clear ho
 refine ww ?_
 cases h
 exact eF []
def F34_l2:List Ah→Nat→(List Ah)→Option ((List Ah))
 |[],o2_1,o2_0=>some o2_0
 |xo2::xs,o2_1,o2_0=>(rdI o2_0 ((o2_1:Int))).bind fun y4=>(BI y4.Aq).bind fun t5=>(rdI o2_0 ((o2_1:Int))).bind fun y6=>F34_l2 xs (o2_1+1) ((o2_0.set ((o2_1:Int)).toNat ((⟨y6.Key,y6.Op,t5⟩:Ah))))
def F34(x0:Filter):Option ((List Ah)):=(BI x0.Selector).bind fun t1=>(((ck (0≤t1.length∧t1.length≤4294967290)).bind fun u7=>F34_l2 t1 0 t1).bind fun o2=>some o2)
def a34:AFn:=⟨28,[(.cell 2 (some 3))],
 (.seq (.reg [Qg 1 0,
sq 2 (.zbox [dS ⟨#[]⟩,dS ⟨#[]⟩,dN])])
 (.seq (.reg [Qb 4 2 1,
Qd 5 4,
Qk 6 60 5,
Qb 7 2 1,
su (.store 1 (.t 7) (.t 6))])
 (.seq (.seq (.reg [Qb 8 2 1,
Qd 9 8,
Qh 10 9,
Qe 11 0])
 (.sem (.block 0 (.loop (.seq (.reg [Qn 12 11 10])
 (.seq (.cond (.t 12)
 .skip
 (.exit 0))
 (.seq (.block 1 (.seq (.reg [Qa 13 11,
Qa 3 13])
 (.regd [Qb 14 2 1,
sd 15 (.load none (.t 14)) [0],
Qa 16 3,
Qb 17 2 1,
sd 18 (.load none (.t 17)) [3],
Qa 19 3,
sd 20 (.indexA 3 (.t 18) (.t 19)) [3,4,5],
sd 21 (.fieldA 2 (.t 20)) [3,4,5,6],
sd 22 (.load none (.t 21)) [3,4,5,6,7],
zl 23 (.call 61 [(.t 22)]) [3,4,5,6,7,8] [1,14],
sd 24 (.indexA 3 (.t 15) (.t 16)) [0,1,2,3,4,5,6,7,8,9],
sd 25 (.fieldA 2 (.t 24)) [0,1,2,3,4,5,6,7,8,9,10],
⟨none,none,.store 1 (.t 25) (.t 23),[0,1,2,3,4,5,6,7,8,9,10,11],(.lone [])⟩])))
 (.reg [Qm 26 11 1,
Qa 11 26]))))))))
 (.seq (.reg [Qc 27 3 1,
⟨none,none,.store 3 (.t 2) (.t 27),[],(.lone [1])⟩])
 .ret))))⟩
theorem F34_ok{x0 r}(h:F34 x0=some r):An Tryz.prog 34 [.agg (Bj x0)] [] (AL [.agg [dS x0.Kind,dS x0.Namespace,.own 0 0 0 (r.length) none]]) [some (.arr 0 3 (r.map Al))]:=by
 rw[F34]at h
 refine zc a34 (by kernel_rfl) rfl (ww ?_)
 obtain⟨t1,ht1,h⟩:=bi h
 refine cN [] (F60_ok ht1) trivial (ww ?_)
 obtain⟨o2,ho,h⟩:=bi h
 refine AB (fun s=>s=⟨[(1,Pz 0),(2,Pz 2)],[xb [dS x0.Kind,dS x0.Namespace,.own 1 0 0 (o2.length) none],some (.arr 0 3 (o2.map Al)),xb [dS ((⟨#[]⟩:ByteArray)),dS ((⟨#[]⟩:ByteArray)),dN]]⟩) ?_ ?_
 ·have h:=ho
  clear ho
  obtain⟨_,hk,h⟩:=bi h
  have hk:=AS hk
  refine ww ?_
  refine bL (fun j s=>∃(o2_1:Nat) (o2_0:List Ah),(o2_1≤t1.length∧j=t1.length-o2_1)∧s=⟨[(1,Pz 0),(2,Pz 2),(10,oc (dI ((t1.length:Int)))),(11,oc (dI ((o2_1:Int))))],[xb [dS x0.Kind,dS x0.Namespace,.own 1 0 0 (o2_0.length) none],some (.arr 0 3 (o2_0.map Al)),xb [dS ((⟨#[]⟩:ByteArray)),dS ((⟨#[]⟩:ByteArray)),dN]]⟩∧F34_l2 (t1.drop o2_1) o2_1 o2_0=some o2) (t1.length-0) [some 0,some 2,some 1] ⟨0,t1,⟨hk.1,rfl⟩,rfl,h⟩ ?_
  rintro _ _ ⟨o2_1,o2_0,⟨hi,rfl⟩,rfl,h⟩
  refine ww ?_
  refine Bg (fun c3=>?_) (fun c3=>?_)
  ·obtain⟨xo2,hxo2,hd⟩:=A5 (show(o2_1:Int)<(t1.length:Int)from c3)
   rw[hd,F34_l2]at h
   refine ww ?_
   obtain⟨y4,hy4,h⟩:=bi h
   refine Cx (enc:=Al) (xs:=o2_0) rfl rfl rfl (by first|rfl|simp only[List.length_set]|exact(AN (AX (by assumption))).symm) hy4 (ww ?_)
   refine Es.rd (Bk hy4).2.1 (ww ?_)
   obtain⟨t5,ht5,h⟩:=bi h
   refine cN [] (F61_ok ht5) trivial (ww ?_)
   obtain⟨y6,hy6,h⟩:=bi h
   refine Cx (enc:=Al) (xs:=o2_0) rfl rfl rfl (by first|rfl|simp only[List.length_set]|exact(AN (AX (by assumption))).symm) hy6 (ww ?_)
   refine Fp.rd (y':=(⟨y6.Key,y6.Op,t5⟩:Ah)) (Bk hy6).2.1 (by simp[EE.down]) (by first|rfl|(simp only[BB];rfl)) (ww ?_)
   rw[AW (by omega)]
   exact eL' (t1.length-(o2_1+1)) [some 0,some 1,some 2] ⟨o2_1+1,(o2_0.set ((o2_1:Int)).toNat ((⟨y6.Key,y6.Op,t5⟩:Ah))),⟨by omega,rfl⟩,rfl,h⟩ (by omega)
  rw[A6 (show¬((o2_1:Int)<(t1.length:Int))from c3),F34_l2]at h
  refine ww ?_
  cases h
  exact eM [some 0,some 1,some 2] rfl
 rintro _ rfl
 clear ho
 refine ww ?_
 cases h
 exact eF [some 1]
def F68_l3(rc52:Ab→Option ((List Ab)×(List Ay))):List Ab→Nat→(List Ab)→Option ((List Ab))
 |[],o3_1,o3_0=>some o3_0
 |xo3::xs,o3_1,o3_0=>(rdI o3_0 ((o3_1:Int))).bind fun y5=>(rc52 y5).bind fun t6=>(rdI o3_0 ((o3_1:Int))).bind fun y7=>F68_l3 rc52 xs (o3_1+1) ((o3_0.set ((o3_1:Int)).toNat ((⟨y5.Kind,y5.N,y5.S,t6.1,t6.2⟩:Ab))))
def F68_l9(rc52:Ab→Option ((List Ab)×(List Ay))):List Ay→Nat→(List Ay)→Option ((List Ay))
 |[],o9_1,o9_0=>some o9_0
 |xo9::xs,o9_1,o9_0=>(rdI o9_0 ((o9_1:Int))).bind fun y11=>(rc52 y11.V).bind fun t12=>(rdI o9_0 ((o9_1:Int))).bind fun y13=>F68_l9 rc52 xs (o9_1+1) ((o9_0.set ((o9_1:Int)).toNat ((⟨y13.Name,(⟨y11.V.Kind,y11.V.N,y11.V.S,t12.1,t12.2⟩:Ab)⟩:Ay))))
def F68(rc52:Ab→Option ((List Ab)×(List Ay)))(x0:Ab):Option ((List Ab)×(List Ay)):=(BI x0.At).bind fun t1=>(BI x0.Ae).bind fun t2=>(((ck (0≤t1.length∧t1.length≤4294967290)).bind fun u8=>F68_l3 rc52 t1 0 t1).bind fun o3=>(((ck (0≤t2.length∧t2.length≤4294967290)).bind fun u14=>F68_l9 rc52 t2 0 t2).bind fun o9=>some ((o3,o9))))
def a68:AFn:=⟨50,[(.cell 2 (some 5))],
 (.seq (.reg [Qg 1 0,
sq 2 (.zbox [dI 0,dI 0,dS ⟨#[]⟩,dN,dN])])
 (.seq (.regd [Qb 5 3 1,
sd 6 (.load none (.t 5)) [0],
zn 7 (.call 99 [(.t 6)]) [0,1] [0,1],
Qb 8 4 1,
sd 9 (.load none (.t 8)) [3],
sd 10 (.call 100 [(.t 9)]) [0,1,2,3,4],
sd 11 (.fieldA 3 (.t 1)) [0,1,2,3,4],
⟨none,none,.store 1 (.t 11) (.t 7),[0,1,2,3,4,5,6],(.lone [])⟩,
sd 12 (.fieldA 4 (.t 1)) [0,1,2,3,4,5,6,7],
⟨none,none,.store 1 (.t 12) (.t 10),[0,1,2,3,4,5,6,7,8],(.lone [])⟩])
 (.seq (.seq (.reg [Qb 13 3 1,
Qd 14 13,
Qh 15 14,
Qe 16 0])
 (.sem (.block 0 (.loop (.seq (.reg [Qn 17 16 15])
 (.seq (.cond (.t 17)
 .skip
 (.exit 0))
 (.seq (.block 1 (.seq (.reg [Qa 18 16,
Qa 3 18])
 (.regd [Qb 19 3 1,
sd 20 (.load none (.t 19)) [0],
Qa 21 3,
Qb 22 3 1,
sd 23 (.load none (.t 22)) [3],
Qa 24 3,
sd 25 (.indexA 5 (.t 23) (.t 24)) [3,4,5],
sd 26 (.load (some 5) (.t 25)) [3,4,5,6],
zl 27 (.call 68 [(.t 26)]) [3,4,5,6,7] [1,19],
sd 28 (.indexA 5 (.t 20) (.t 21)) [0,1,2,3,4,5,6,7,8],
⟨none,none,.store 5 (.t 28) (.t 27),[0,1,2,3,4,5,6,7,8,9],(.lone [])⟩])))
 (.reg [Qm 29 16 1,
Qa 16 29]))))))))
 (.seq (.seq (.reg [Qb 30 4 1,
Qd 31 30,
Qh 32 31,
Qe 33 0])
 (.sem (.block 2 (.loop (.seq (.reg [Qn 34 33 32])
 (.seq (.cond (.t 34)
 .skip
 (.exit 2))
 (.seq (.block 3 (.seq (.reg [Qa 35 33,
Qa 4 35])
 (.regd [Qb 36 4 1,
sd 37 (.load none (.t 36)) [0],
Qa 38 4,
Qb 39 4 1,
sd 40 (.load none (.t 39)) [3],
Qa 41 4,
sd 42 (.indexA 6 (.t 40) (.t 41)) [3,4,5],
sd 43 (.fieldA 1 (.t 42)) [3,4,5,6],
sd 44 (.load (some 5) (.t 43)) [3,4,5,6,7],
zl 45 (.call 68 [(.t 44)]) [3,4,5,6,7,8] [1,36],
sd 46 (.indexA 6 (.t 37) (.t 38)) [0,1,2,3,4,5,6,7,8,9],
sd 47 (.fieldA 1 (.t 46)) [0,1,2,3,4,5,6,7,8,9,10],
⟨none,none,.store 5 (.t 47) (.t 45),[0,1,2,3,4,5,6,7,8,9,10,11],(.lone [])⟩])))
 (.reg [Qm 48 33 1,
Qa 33 48]))))))))
 (.seq (.reg [Qc 49 5 1,
⟨none,none,.store 5 (.t 2) (.t 49),[],(.lone [1])⟩])
 .ret)))))⟩
theorem F68_ok{rc52:Ab→Option ((List Ab)×(List Ay))}(ih52:∀{x0:Ab} {r:(List Ab)×(List Ay)} (h:rc52 x0=some r),An Tryz.prog 68 [.agg (AJ x0)] [] (AL [.agg [dI x0.Kind,dI x0.N,dS x0.S,.own 0 0 0 (r.1.length) none,.own 1 0 0 (r.2.length) none]]) [some (.arr 0 5 (r.1.map Ap)),some (.arr 0 6 (r.2.map Ao))]){x0:Ab}{r:(List Ab)×(List Ay)}(h:F68 rc52 x0=some r):An Tryz.prog 68 [.agg (AJ x0)] [] (AL [.agg [dI x0.Kind,dI x0.N,dS x0.S,.own 0 0 0 (r.1.length) none,.own 1 0 0 (r.2.length) none]]) [some (.arr 0 5 (r.1.map Ap)),some (.arr 0 6 (r.2.map Ao))]:=by
 rw[F68]at h
 refine zc a68 (by kernel_rfl) rfl (ww ?_)
 obtain⟨t1,ht1,h⟩:=bi h
 refine cN [] (F99_ok ht1) trivial (ww ?_)
 refine B3 (by simp[wrs,B8,BV]) (ww ?_)
 obtain⟨t2,ht2,h⟩:=bi h
 refine cN [] (F100_ok ht2) trivial (ww ?_)
 refine B3 (by simp[wrs,B8,BV]) (ww ?_)
 obtain⟨o3,ho,h⟩:=bi h
 refine AB (fun s=>s=⟨[(1,Pz 0),(2,Pz 3)],[xb [dI x0.Kind,dI x0.N,dS x0.S,.own 1 0 0 (o3.length) none,.own 2 0 0 (t2.length) none],some (.arr 0 5 (o3.map Ap)),some (.arr 0 6 (t2.map Ao)),xb [dI 0,dI 0,dS ((⟨#[]⟩:ByteArray)),dN,dN]]⟩) ?_ ?_
 ·have h:=ho
  clear ho
  obtain⟨_,hk,h⟩:=bi h
  have hk:=AS hk
  refine ww ?_
  refine bL (fun j s=>∃(o3_1:Nat) (o3_0:List Ab),(o3_1≤t1.length∧j=t1.length-o3_1)∧s=⟨[(1,Pz 0),(2,Pz 3),(15,oc (dI ((t1.length:Int)))),(16,oc (dI ((o3_1:Int))))],[xb [dI x0.Kind,dI x0.N,dS x0.S,.own 1 0 0 (o3_0.length) none,.own 2 0 0 (t2.length) none],some (.arr 0 5 (o3_0.map Ap)),some (.arr 0 6 (t2.map Ao)),xb [dI 0,dI 0,dS ((⟨#[]⟩:ByteArray)),dN,dN]]⟩∧F68_l3 rc52 (t1.drop o3_1) o3_1 o3_0=some o3) (t1.length-0) [some 0,some 2,some 3,some 1] ⟨0,t1,⟨hk.1,rfl⟩,rfl,h⟩ ?_
  rintro _ _ ⟨o3_1,o3_0,⟨hi,rfl⟩,rfl,h⟩
  refine ww ?_
  refine Bg (fun c4=>?_) (fun c4=>?_)
  ·obtain⟨xo3,hxo3,hd⟩:=A5 (show(o3_1:Int)<(t1.length:Int)from c4)
   rw[hd,F68_l3]at h
   refine ww ?_
   obtain⟨y5,hy5,h⟩:=bi h
   refine Cx (enc:=Ap) (xs:=o3_0) rfl rfl rfl (by first|rfl|simp only[List.length_set]|exact(AN (AX (by assumption))).symm) hy5 (ww ?_)
   refine Es.rd (Bk hy5).2.1 (ww ?_)
   obtain⟨t6,ht6,h⟩:=bi h
   refine cN [] (ih52 ht6) trivial (ww ?_)
   obtain⟨y7,hy7,h⟩:=bi h
   refine Cx (enc:=Ap) (xs:=o3_0) rfl rfl rfl (by first|rfl|simp only[List.length_set]|exact(AN (AX (by assumption))).symm) hy7 (ww ?_)
   refine Fp.rd (y':=(⟨y5.Kind,y5.N,y5.S,t6.1,t6.2⟩:Ab)) (Bk hy7).2.1 (by simp[EE.down]) (by first|rfl|(simp only[BB];rfl)|(simp only[Cq,BB];rfl)) (ww ?_)
   rw[AW (by omega)]
   exact eL' (t1.length-(o3_1+1)) [some 0,some 1,some 2,some 3] ⟨o3_1+1,(o3_0.set ((o3_1:Int)).toNat ((⟨y5.Kind,y5.N,y5.S,t6.1,t6.2⟩:Ab))),⟨by omega,rfl⟩,rfl,h⟩ (by omega)
  rw[A6 (show¬((o3_1:Int)<(t1.length:Int))from c4),F68_l3]at h
  refine ww ?_
  cases h
  exact eM [some 0,some 1,some 2,some 3] rfl
 rintro _ rfl
 clear ho
 refine ww ?_
 obtain⟨o9,ho,h⟩:=bi h
 refine AB (fun s=>s=⟨[(1,Pz 0),(2,Pz 3)],[xb [dI x0.Kind,dI x0.N,dS x0.S,.own 1 0 0 (o3.length) none,.own 2 0 0 (o9.length) none],some (.arr 0 5 (o3.map Ap)),some (.arr 0 6 (o9.map Ao)),xb [dI 0,dI 0,dS ((⟨#[]⟩:ByteArray)),dN,dN]]⟩) ?_ ?_
 ·have h:=ho
  clear ho
  obtain⟨_,hk,h⟩:=bi h
  have hk:=AS hk
  refine ww ?_
  refine bL (fun j s=>∃(o9_1:Nat) (o9_0:List Ay),(o9_1≤t2.length∧j=t2.length-o9_1)∧s=⟨[(1,Pz 0),(2,Pz 3),(32,oc (dI ((t2.length:Int)))),(33,oc (dI ((o9_1:Int))))],[xb [dI x0.Kind,dI x0.N,dS x0.S,.own 1 0 0 (o3.length) none,.own 2 0 0 (o9_0.length) none],some (.arr 0 5 (o3.map Ap)),some (.arr 0 6 (o9_0.map Ao)),xb [dI 0,dI 0,dS ((⟨#[]⟩:ByteArray)),dN,dN]]⟩∧F68_l9 rc52 (t2.drop o9_1) o9_1 o9_0=some o9) (t2.length-0) [some 0,some 1,some 2,some 3] ⟨0,t2,⟨hk.1,rfl⟩,rfl,h⟩ ?_
  rintro _ _ ⟨o9_1,o9_0,⟨hi,rfl⟩,rfl,h⟩
  refine ww ?_
  refine Bg (fun c10=>?_) (fun c10=>?_)
  ·obtain⟨xo9,hxo9,hd⟩:=A5 (show(o9_1:Int)<(t2.length:Int)from c10)
   rw[hd,F68_l9]at h
   refine ww ?_
   obtain⟨y11,hy11,h⟩:=bi h
   refine Cx (enc:=Ao) (xs:=o9_0) rfl rfl rfl (by first|rfl|simp only[List.length_set]|exact(AN (AX (by assumption))).symm) hy11 (ww ?_)
   refine Es.rd (Bk hy11).2.1 (ww ?_)
   obtain⟨t12,ht12,h⟩:=bi h
   refine cN [] (ih52 ht12) trivial (ww ?_)
   obtain⟨y13,hy13,h⟩:=bi h
   refine Cx (enc:=Ao) (xs:=o9_0) rfl rfl rfl (by first|rfl|simp only[List.length_set]|exact(AN (AX (by assumption))).symm) hy13 (ww ?_)
   refine Fp.rd (y':=(⟨y13.Name,(⟨y11.V.Kind,y11.V.N,y11.V.S,t12.1,t12.2⟩:Ab)⟩:Ay)) (Bk hy13).2.1 (by simp[EE.down]) (by first|rfl|(simp only[BB];rfl)|(simp only[BA,BB];rfl)) (ww ?_)
   rw[AW (by omega)]
   exact eL' (t2.length-(o9_1+1)) [some 0,some 1,some 2,some 3] ⟨o9_1+1,(o9_0.set ((o9_1:Int)).toNat ((⟨y13.Name,(⟨y11.V.Kind,y11.V.N,y11.V.S,t12.1,t12.2⟩:Ab)⟩:Ay))),⟨by omega,rfl⟩,rfl,h⟩ (by omega)
  rw[A6 (show¬((o9_1:Int)<(t2.length:Int))from c10),F68_l9]at h
  refine ww ?_
  cases h
  exact eM [some 0,some 1,some 2,some 3] rfl
 rintro _ rfl
 clear ho
 refine ww ?_
 cases h
 exact eF [some 1,some 2]
def F68k:Nat→Ab→Option ((List Ab)×(List Ay))
 |0=>fun _=>none
 |k+1=>F68 (F68k k)
theorem F68k_ok(k:Nat){x0:Ab}{r:(List Ab)×(List Ay)}(h:F68k k x0=some r):An Tryz.prog 68 [.agg (AJ x0)] [] (AL [.agg [dI x0.Kind,dI x0.N,dS x0.S,.own 0 0 0 (r.1.length) none,.own 1 0 0 (r.2.length) none]]) [some (.arr 0 5 (r.1.map Ap)),some (.arr 0 6 (r.2.map Ao))]:=by
 induction k generalizing x0 r with
 |zero=>cases(show(none:Option ((List Ab)×(List Ay)))=some _ from h)
 |succ k ih=>exact F68_ok (fun h=>ih h) h
def F158_l2(rc66:Ab→Option ((List Ab)×(List Ay))):List Ab→Nat→(List Ab)→Option ((List Ab))
 |[],o2_1,o2_0=>some o2_0
 |xo2::xs,o2_1,o2_0=>(rdI o2_0 ((o2_1:Int))).bind fun y4=>(rc66 y4).bind fun t5=>(rdI o2_0 ((o2_1:Int))).bind fun y6=>F158_l2 rc66 xs (o2_1+1) ((o2_0.set ((o2_1:Int)).toNat ((⟨y4.Kind,y4.N,y4.S,t5.1,t5.2⟩:Ab))))
def F158_l9(rc66:Ab→Option ((List Ab)×(List Ay))):List Ay→Nat→(List Ay)→Option ((List Ay))
 |[],o9_1,o9_0=>some o9_0
 |xo9::xs,o9_1,o9_0=>(rdI o9_0 ((o9_1:Int))).bind fun y11=>(rc66 y11.V).bind fun t12=>(rdI o9_0 ((o9_1:Int))).bind fun y13=>F158_l9 rc66 xs (o9_1+1) ((o9_0.set ((o9_1:Int)).toNat ((⟨y13.Name,(⟨y11.V.Kind,y11.V.N,y11.V.S,t12.1,t12.2⟩:Ab)⟩:Ay))))
def F158(rc66:Ab→Option ((List Ab)×(List Ay)))(x0:Ab):Option ((List Ab)×(List Ay)):=(BI x0.At).bind fun t1=>(((ck (0≤t1.length∧t1.length≤4294967290)).bind fun u7=>F158_l2 rc66 t1 0 t1).bind fun o2=>(BI x0.Ae).bind fun t8=>(((ck (0≤t8.length∧t8.length≤4294967290)).bind fun u14=>F158_l9 rc66 t8 0 t8).bind fun o9=>some ((o2,o9))))
def a158:AFn:=⟨48,[(.cell 2 (some 5))],
 (.seq (.reg [Qg 1 0,
sq 2 (.zbox [dI 0,dI 0,dS ⟨#[]⟩,dN,dN])])
 (.seq (.reg [Qb 7 3 1,
Qd 8 7,
Qk 9 99 8,
Qb 10 3 1,
su (.store 1 (.t 10) (.t 9))])
 (.seq (.seq (.reg [Qb 11 3 1,
Qd 12 11,
Qh 13 12,
Qe 14 0])
 (.sem (.block 0 (.loop (.seq (.reg [Qn 15 14 13])
 (.seq (.cond (.t 15)
 .skip
 (.exit 0))
 (.seq (.block 1 (.seq (.reg [Qa 16 14,
Qp 17 5 12 14,
Qc 18 5 17,
sq 4 (.zbox [dI 0,dI 0,dS ⟨#[]⟩,dN,dN]),
Qa 3 16,
su (.store 5 (.t 4) (.t 18))])
 (.regd [Qb 19 3 1,
sd 20 (.load none (.t 19)) [0],
Qa 21 3,
Qc 22 5 4,
zl 23 (.call 158 [(.t 22)]) [3] [1,19],
sd 24 (.indexA 5 (.t 20) (.t 21)) [0,1,2,3,4],
⟨none,none,.store 5 (.t 24) (.t 23),[0,1,2,3,4,5],(.lone [])⟩])))
 (.reg [Qm 25 14 1,
Qa 14 25]))))))))
 (.seq (.reg [Qb 26 4 1,
Qd 27 26,
Qk 28 100 27,
Qb 29 4 1,
su (.store 1 (.t 29) (.t 28))])
 (.seq (.seq (.reg [Qb 30 4 1,
Qd 31 30,
Qh 32 31,
Qe 33 0])
 (.sem (.block 2 (.loop (.seq (.reg [Qn 34 33 32])
 (.seq (.cond (.t 34)
 .skip
 (.exit 2))
 (.seq (.block 3 (.seq (.reg [Qa 35 33,
Qp 36 6 31 33,
Qc 37 6 36,
sq 6 (.zbox [dS ⟨#[]⟩,dI 0,dI 0,dS ⟨#[]⟩,dN,dN]),
Qa 5 35,
su (.store 6 (.t 6) (.t 37))])
 (.regd [Qb 38 4 1,
sd 39 (.load none (.t 38)) [0],
Qa 40 5,
Qb 41 1 6,
sd 42 (.load (some 5) (.t 41)) [3],
zl 43 (.call 158 [(.t 42)]) [3,4] [1,38],
sd 44 (.indexA 6 (.t 39) (.t 40)) [0,1,2,3,4,5],
sd 45 (.fieldA 1 (.t 44)) [0,1,2,3,4,5,6],
⟨none,none,.store 5 (.t 45) (.t 43),[0,1,2,3,4,5,6,7],(.lone [])⟩])))
 (.reg [Qm 46 33 1,
Qa 33 46]))))))))
 (.seq (.reg [Qc 47 5 1,
⟨none,none,.store 5 (.t 2) (.t 47),[],(.lone [1])⟩])
 .ret))))))⟩
theorem F158_ok{rc66:Ab→Option ((List Ab)×(List Ay))}(ih66:∀{x0:Ab} {r:(List Ab)×(List Ay)} (h:rc66 x0=some r),An Tryz.prog 158 [.agg (AJ x0)] [] (AL [.agg [dI x0.Kind,dI x0.N,dS x0.S,.own 0 0 0 (r.1.length) none,.own 1 0 0 (r.2.length) none]]) [some (.arr 0 5 (r.1.map Ap)),some (.arr 0 6 (r.2.map Ao))]){x0:Ab}{r:(List Ab)×(List Ay)}(h:F158 rc66 x0=some r):An Tryz.prog 158 [.agg (AJ x0)] [] (AL [.agg [dI x0.Kind,dI x0.N,dS x0.S,.own 0 0 0 (r.1.length) none,.own 1 0 0 (r.2.length) none]]) [some (.arr 0 5 (r.1.map Ap)),some (.arr 0 6 (r.2.map Ao))]:=by
 rw[F158]at h
 refine zc a158 (by kernel_rfl) rfl (ww ?_)
 obtain⟨t1,ht1,h⟩:=bi h
 refine cN [] (F99_ok ht1) trivial (ww ?_)
 obtain⟨o2,ho,h⟩:=bi h
 refine AB (fun s=>s=⟨[(1,Pz 0),(2,Pz 2)],[xb [dI x0.Kind,dI x0.N,dS x0.S,.own 1 0 0 (o2.length) none,dM (x0.Ae.map Ao)],some (.arr 0 5 (o2.map Ap)),xb [dI 0,dI 0,dS ((⟨#[]⟩:ByteArray)),dN,dN]]⟩) ?_ ?_
 ·have h:=ho
  clear ho
  obtain⟨_,hk,h⟩:=bi h
  have hk:=AS hk
  refine ww ?_
  refine bL (fun j s=>∃(o2_1:Nat) (o2_0:List Ab),(o2_1≤t1.length∧j=t1.length-o2_1)∧s=⟨[(1,Pz 0),(2,Pz 2),(12,oc (.own 1 0 0 (o2_0.length) none)),(13,oc (dI ((t1.length:Int)))),(14,oc (dI ((o2_1:Int))))],[xb [dI x0.Kind,dI x0.N,dS x0.S,.own 1 0 0 (o2_0.length) none,dM (x0.Ae.map Ao)],some (.arr 0 5 (o2_0.map Ap)),xb [dI 0,dI 0,dS ((⟨#[]⟩:ByteArray)),dN,dN]]⟩∧F158_l2 rc66 (t1.drop o2_1) o2_1 o2_0=some o2) (t1.length-0) [some 0,some 2,some 1] ⟨0,t1,⟨hk.1,rfl⟩,rfl,h⟩ ?_
  rintro _ _ ⟨o2_1,o2_0,⟨hi,rfl⟩,rfl,h⟩
  refine ww ?_
  refine Bg (fun c3=>?_) (fun c3=>?_)
  ·obtain⟨xo2,hxo2,hd⟩:=A5 (show(o2_1:Int)<(t1.length:Int)from c3)
   rw[hd,F158_l2]at h
   refine ww ?_
   obtain⟨y4,hy4,h⟩:=bi h
   refine Cx (enc:=Ap) (xs:=o2_0) rfl rfl rfl (by first|rfl|simp only[List.length_set]|exact(AN (AX (by assumption))).symm) hy4 (ww ?_)
   refine Es.rd (Bk hy4).2.1 (ww ?_)
   obtain⟨t5,ht5,h⟩:=bi h
   refine cN [] (ih66 ht5) trivial (ww ?_)
   obtain⟨y6,hy6,h⟩:=bi h
   refine Cx (enc:=Ap) (xs:=o2_0) rfl rfl rfl (by first|rfl|simp only[List.length_set]|exact(AN (AX (by assumption))).symm) hy6 (ww ?_)
   refine Fp.rd (y':=(⟨y4.Kind,y4.N,y4.S,t5.1,t5.2⟩:Ab)) (Bk hy6).2.1 (by simp[EE.down]) (by first|rfl|(simp only[BB];rfl)|(simp only[Cq,BB];rfl)) (ww ?_)
   rw[AW (by omega)]
   exact eL' (t1.length-(o2_1+1)) [some 0,some 1,some 2] ⟨o2_1+1,(o2_0.set ((o2_1:Int)).toNat ((⟨y4.Kind,y4.N,y4.S,t5.1,t5.2⟩:Ab))),⟨by omega,rfl⟩,rfl,h⟩ (by omega)
  rw[A6 (show¬((o2_1:Int)<(t1.length:Int))from c3),F158_l2]at h
  refine ww ?_
  cases h
  exact eM [some 0,some 1,some 2] rfl
 rintro _ rfl
 clear ho
 refine ww ?_
 obtain⟨t8,ht8,h⟩:=bi h
 refine cN [] (F100_ok ht8) trivial (ww ?_)
 obtain⟨o9,ho,h⟩:=bi h
 refine AB (fun s=>s=⟨[(1,Pz 0),(2,Pz 3)],[xb [dI x0.Kind,dI x0.N,dS x0.S,.own 1 0 0 (o2.length) none,.own 2 0 0 (o9.length) none],some (.arr 0 5 (o2.map Ap)),some (.arr 0 6 (o9.map Ao)),xb [dI 0,dI 0,dS ((⟨#[]⟩:ByteArray)),dN,dN]]⟩) ?_ ?_
 ·have h:=ho
  clear ho
  obtain⟨_,hk,h⟩:=bi h
  have hk:=AS hk
  refine ww ?_
  refine bL (fun j s=>∃(o9_1:Nat) (o9_0:List Ay),(o9_1≤t8.length∧j=t8.length-o9_1)∧s=⟨[(1,Pz 0),(2,Pz 3),(31,oc (.own 2 0 0 (o9_0.length) none)),(32,oc (dI ((t8.length:Int)))),(33,oc (dI ((o9_1:Int))))],[xb [dI x0.Kind,dI x0.N,dS x0.S,.own 1 0 0 (o2.length) none,.own 2 0 0 (o9_0.length) none],some (.arr 0 5 (o2.map Ap)),some (.arr 0 6 (o9_0.map Ao)),xb [dI 0,dI 0,dS ((⟨#[]⟩:ByteArray)),dN,dN]]⟩∧F158_l9 rc66 (t8.drop o9_1) o9_1 o9_0=some o9) (t8.length-0) [some 0,some 1,some 3,some 2] ⟨0,t8,⟨hk.1,rfl⟩,rfl,h⟩ ?_
  rintro _ _ ⟨o9_1,o9_0,⟨hi,rfl⟩,rfl,h⟩
  refine ww ?_
  refine Bg (fun c10=>?_) (fun c10=>?_)
  ·obtain⟨xo9,hxo9,hd⟩:=A5 (show(o9_1:Int)<(t8.length:Int)from c10)
   rw[hd,F158_l9]at h
   refine ww ?_
   obtain⟨y11,hy11,h⟩:=bi h
   refine Cx (enc:=Ao) (xs:=o9_0) rfl rfl rfl (by first|rfl|simp only[List.length_set]|exact(AN (AX (by assumption))).symm) hy11 (ww ?_)
   refine Es.rd (Bk hy11).2.1 (ww ?_)
   obtain⟨t12,ht12,h⟩:=bi h
   refine cN [] (ih66 ht12) trivial (ww ?_)
   obtain⟨y13,hy13,h⟩:=bi h
   refine Cx (enc:=Ao) (xs:=o9_0) rfl rfl rfl (by first|rfl|simp only[List.length_set]|exact(AN (AX (by assumption))).symm) hy13 (ww ?_)
   refine Fp.rd (y':=(⟨y13.Name,(⟨y11.V.Kind,y11.V.N,y11.V.S,t12.1,t12.2⟩:Ab)⟩:Ay)) (Bk hy13).2.1 (by simp[EE.down]) (by first|rfl|(simp only[BB];rfl)|(simp only[BA,BB];rfl)) (ww ?_)
   rw[AW (by omega)]
   exact eL' (t8.length-(o9_1+1)) [some 0,some 1,some 2,some 3] ⟨o9_1+1,(o9_0.set ((o9_1:Int)).toNat ((⟨y13.Name,(⟨y11.V.Kind,y11.V.N,y11.V.S,t12.1,t12.2⟩:Ab)⟩:Ay))),⟨by omega,rfl⟩,rfl,h⟩ (by omega)
  rw[A6 (show¬((o9_1:Int)<(t8.length:Int))from c10),F158_l9]at h
  refine ww ?_
  cases h
  exact eM [some 0,some 1,some 2,some 3] rfl
 rintro _ rfl
 clear ho
 refine ww ?_
 cases h
 exact eF [some 1,some 2]
def F158k:Nat→Ab→Option ((List Ab)×(List Ay))
 |0=>fun _=>none
 |k+1=>F158 (F158k k)
theorem F158k_ok(k:Nat){x0:Ab}{r:(List Ab)×(List Ay)}(h:F158k k x0=some r):An Tryz.prog 158 [.agg (AJ x0)] [] (AL [.agg [dI x0.Kind,dI x0.N,dS x0.S,.own 0 0 0 (r.1.length) none,.own 1 0 0 (r.2.length) none]]) [some (.arr 0 5 (r.1.map Ap)),some (.arr 0 6 (r.2.map Ao))]:=by
 induction k generalizing x0 r with
 |zero=>cases(show(none:Option ((List Ab)×(List Ay)))=some _ from h)
 |succ k ih=>exact F158_ok (fun h=>ih h) h
def F191(x0:(List ByteArray))(x1:ByteArray):Option (Bool):=(F203 x0 x1).bind fun t1=>some (decide (0≤t1))
def a191:AFn:=⟨9,[(.tmp 4)],
 (.seq (.reg [Qf 4 false])
 (.seq (.reg [Qa 5 0,
Qa 6 1,
Ql 7 203 5 6,
sq 8 (.bin .geq (.t 7) (kI 0)),
Qa 4 8])
 .ret))⟩
theorem F191_ok{x0 x1 r}(h:F191 x0 x1=some r):An Tryz.prog 191 [.c (dM (x0.map eS)),.c (dS x1)] [] (AL [.c (dB r)]) []:=by
 rw[F191]at h
 refine zc a191 (by kernel_rfl) rfl (ww ?_)
 obtain⟨t1,ht1,h⟩:=bi h
 refine cN [] (F203_ok ht1) trivial (ww ?_)
 cases h
 exact eF []
def F175(x0:ByteArray):Option (Bool):=(((if x0=(⟨#[]⟩:ByteArray)then some true else(F176 x0).bind fun t3=>some t3)).bind fun o1=>some o1)
def a175:AFn:=⟨9,[(.tmp 2)],
 (.seq (.reg [Qf 2 false])
 (.seq (.sem (.reg [Qa 3 0,
sq 4 (.bin .eql (.t 3) (kS ⟨#[]⟩)),
Qa 5 4,
Qv 6 5 false 0,
zg 7 5 false (.call 176 [(.t 6)]),
Qj 8 5 7,
Qa 2 8]))
 .ret))⟩
theorem F175_ok{x0 r}(h:F175 x0=some r):An Tryz.prog 175 [.c (dS x0)] [] (AL [.c (dB r)]) []:=by
 rw[F175]at h
 refine zc a175 (by kernel_rfl) rfl (ww ?_)
 obtain⟨o1,ho,h⟩:=bi h
 refine AB (fun s=>s=⟨[(2,oc (dB o1))],[]⟩) ?_ ?_
 ·have h:=ho
  clear ho
  refine ww ?_
  refine Af h (fun g2 h=>ww ?_) (fun g2 h=>ww ?_)
  ·cases h
   exact eM [] rfl
  obtain⟨t3,ht3,h⟩:=bi h
  refine cN [] (F176_ok ht3) trivial (ww ?_)
  cases h
  exact eM [] rfl
 rintro _ rfl
 clear ho
 refine ww ?_
 cases h
 exact eF []
def F178_l1:List BO→Nat→(List (Int×Bool))→Int→Option ((Bool) ⊕ (Int))
 |[],o1_2,o1_0,o1_1=>some (Sum.inr o1_1)
 |xo1::xs,o1_2,o1_0,o1_1=>(((((F174 xo1.Kind).bind fun t5=>(if(nb t5)=true then some true else(F176 xo1.Name).bind fun t7=>(if(nb t7)=true then some true else(if xo1.Uid≤0 then some true else some (((getM xo1.Uid o1_0).getD false)))))).bind fun o4=>(if o4=true then((some false).map Sum.inl).map Sum.inl else(if xo1.BL=true then some (Sum.inr ((IntKind.i64.wrap (o1_1+1))))else some (Sum.inr o1_1)))):Option (((Bool) ⊕ (Int)) ⊕ (Int))).bind fun o3=>match o3 with|Sum.inl f=>some f|Sum.inr po3=>F178_l1 xs (o1_2+1) ((B2 xo1.Uid true o1_0)) po3)
def F178(x0:(List BO)):Option (Bool):=(((ck (0≤x0.length∧x0.length≤4294967290)).bind fun u12=>F178_l1 x0 0 ([]) 0:Option ((Bool) ⊕ (Int))).bind fun o1=>match o1 with|Sum.inl f=>some f|Sum.inr po1=>(((if(x0.length:Int)≤16 then some (decide (po1≤1))else some false)).bind fun o13=>some o13))
def a178:AFn:=⟨50,[(.tmp 2)],
 (.seq (.reg [Qf 2 false])
 (.seq (.reg [sq 7 (.mkmap),
Qa 3 7])
 (.seq (.reg [Qe 4 0])
 (.seq (.seq (.reg [Qa 8 0,
Qh 9 8,
Qe 10 0])
 (.sem (.block 0 (.loop (.seq (.reg [Qn 11 10 9])
 (.seq (.cond (.t 11)
 .skip
 (.exit 0))
 (.seq (.sem (.block 1 (.seq (.reg [Qp 12 5 8 10,
Qc 13 5 12,
sq 6 (.zbox [dS ⟨#[]⟩,dS ⟨#[]⟩,dI 0,dB false,dB false]),
su (.store 5 (.t 6) (.t 13))])
 (.seq (.seq (.sem (.reg [Qb 14 0 6,
Qd 15 14,
Qk 16 174 15,
Qq 17 16,
Qa 18 17,
Qs 19 18 false 1 6,
Qt 20 18 false 19,
zg 21 18 false (.call 176 [(.t 20)]),
zg 22 18 false (.not (.t 21)),
Qj 23 18 22,
Qa 24 23,
Qs 25 24 false 2 6,
Qt 26 24 false 25,
zg 27 24 false (.bin .leq (.t 26) (kI 0)),
Qj 28 24 27,
Qa 29 28,
Qv 30 29 false 3,
Qs 31 29 false 2 6,
Qt 32 29 false 31,
zg 33 29 false (.mget 0 false (.c (dB false)) (.t 30) (.t 32)),
Qj 34 29 33]))
 (.cond (.t 34)
 (.seq (.reg [Qf 2 false])
 .ret)
 .skip))
 (.seq (.reg [Qa 35 3,
Qb 36 2 6,
Qd 37 36,
⟨none,none,.mset 0 (.t 35) (.t 37) (kB true),[],(.lone [6,36])⟩])
 (.seq (.reg [Qb 38 3 6,
Qd 39 38])
 (.cond (.t 39)
 (.reg [Qa 40 4,
Qm 41 40 1,
Qa 4 41])
 .skip)))))))
 (.reg [Qm 42 10 1,
Qa 10 42]))))))))
 (.seq (.sem (.reg [Qa 43 0,
Qh 44 43,
sq 45 (.bin .leq (.t 44) (kI 16)),
Qa 46 45,
Qv 47 46 true 4,
zg 48 46 true (.bin .leq (.t 47) (kI 1)),
Qi 49 46 48,
Qa 2 49]))
 .ret)))))⟩
theorem F178_ok{x0 r}(h:F178 x0=some r):An Tryz.prog 178 [.c (dM (x0.map A3))] [] (AL [.c (dB r)]) []:=by
 rw[F178]at h
 refine zc a178 (by kernel_rfl) rfl (ww ?_)
 refine Ln (κ:=Int) (α:=Bool) (enc:=(fun x=> .v (.bool x))) (Value.int .i64) (ww ?_)
 obtain⟨o1,ho,h⟩:=bi h
 refine AB (fun s=>∃po1,o1=Sum.inr po1∧s=⟨[(0,oc (dM (x0.map A3))),(4,oc (dI po1))],[]⟩) ?_ ?_
 ·have h0o1:=h
  have h:=ho
  clear ho
  obtain⟨_,hk,h⟩:=bi h
  have hk:=AS hk
  refine ww ?_
  refine bL (fun j s=>∃(o1_2:Nat) (o1_0:List (Int×Bool)) (o1_1:Int),(o1_2≤x0.length∧j=x0.length-o1_2)∧s=⟨[(0,oc (dM (x0.map A3))),(3,oc (.mref 0)),(4,oc (dI o1_1)),(8,oc (dM (x0.map A3))),(9,oc (dI ((x0.length:Int)))),(10,oc (dI ((o1_2:Int))))],[some (.map (eM1 (Value.int .i64) (fun x=> .v (.bool x)) o1_0))]⟩∧F178_l1 (x0.drop o1_2) o1_2 o1_0 o1_1=some o1) (x0.length-0) [some 0] ⟨0,[],0,⟨hk.1,rfl⟩,rfl,h⟩ ?_
  rintro _ _ ⟨o1_2,o1_0,o1_1,⟨hi,rfl⟩,rfl,h⟩
  refine ww ?_
  refine Bg (fun c2=>?_) (fun c2=>?_)
  ·obtain⟨xo1,hxo1,hd⟩:=A5 (show(o1_2:Int)<(x0.length:Int)from c2)
   rw[hd,F178_l1]at h
   refine ww ?_
   obtain⟨o3,ho,h⟩:=bi h
   refine AB (fun s=>∃po3,o3=Sum.inr po3∧s=⟨[(0,oc (dM (x0.map A3))),(3,oc (.mref 0)),(4,oc (dI po3)),(8,oc (dM (x0.map A3))),(9,oc (dI ((x0.length:Int)))),(10,oc (dI ((o1_2:Int))))],[some (.map (eM1 (Value.int .i64) (fun x=> .v (.bool x)) ((B2 xo1.Uid true o1_0))))]⟩) ?_ ?_
   ·have h0o3:=h
    have h:=ho
    clear ho
    refine ww ?_
    refine Az (enc:=A3) (xs:=x0) rfl rfl hxo1 rfl (ww ?_)
    obtain⟨o4,ho,h⟩:=bi h
    refine AB (fun s=>s=⟨[(0,oc (dM (x0.map A3))),(3,oc (.mref 0)),(4,oc (dI o1_1)),(6,Pz 1),(8,oc (dM (x0.map A3))),(9,oc (dI ((x0.length:Int)))),(10,oc (dI ((o1_2:Int)))),(34,oc (dB o4))],[some (.map (eM1 (Value.int .i64) (fun x=> .v (.bool x)) o1_0)),xb (XV xo1)]⟩) ?_ ?_
    ·have h:=ho
     clear ho
     refine ww ?_
     obtain⟨t5,ht5,h⟩:=bi h
     refine cN [] (F174_ok ht5) trivial (ww ?_)
     refine AM h (fun g6 h=>ww ?_) (fun g6 h=>ww ?_)
     ·cases h
      exact eM [some 0,some 1] rfl
     obtain⟨t7,ht7,h⟩:=bi h
     refine cN [] (F176_ok ht7) trivial (ww ?_)
     refine AM h (fun g8 h=>ww ?_) (fun g8 h=>ww ?_)
     ·cases h
      exact eM [some 0,some 1] rfl
     refine Af h (fun g9 h=>ww ?_) (fun g9 h=>ww ?_)
     ·cases h
      exact eM [some 0,some 1] rfl
     refine NF (enc:=(fun x=> .v (.bool x))) (l:=o1_0) (z:=false) kkI rfl rfl rfl rfl (ww ?_)
     cases h
     exact eM [some 0,some 1] rfl
    rintro _ rfl
    clear ho
    refine ww ?_
    refine AE h (fun c10 h=>ww ?_) (fun c10 h=>ww ?_)
    ·obtain⟨fh0o3,hfh0o3,rfl⟩:=Option.map_eq_some_iff.1 h
     have h:=hfh0o3.trans h0o3
     obtain⟨fh0o1,hfh0o1,rfl⟩:=Option.map_eq_some_iff.1 h
     have h:=hfh0o1.trans h0o1
     cases h
     exact eF []
    refine I8 (enc:=(fun x=> .v (.bool x))) (l:=o1_0) (x:=true) kkI rfl rfl rfl rfl (ww ?_)
    refine AE h (fun c11 h=>ww ?_) (fun c11 h=>ww ?_)
    ·cases h
     exact eM [some 0] ⟨_,rfl,rfl⟩
    cases h
    exact eM [some 0] ⟨_,rfl,rfl⟩
   rintro _ ⟨po3,rfl,rfl⟩
   clear ho
   dsimp only at h
   refine ww ?_
   rw[AW (by omega)]
   exact eL' (x0.length-(o1_2+1)) [some 0] ⟨o1_2+1,(B2 xo1.Uid true o1_0),po3,⟨by omega,rfl⟩,rfl,h⟩ (by omega)
  rw[A6 (show¬((o1_2:Int)<(x0.length:Int))from c2),F178_l1]at h
  refine ww ?_
  cases h
  exact eM [] ⟨_,rfl,rfl⟩
 rintro _ ⟨po1,rfl,rfl⟩
 clear ho
 dsimp only at h
 refine ww ?_
 obtain⟨o13,ho,h⟩:=bi h
 refine AB (fun s=>s=⟨[(2,oc (dB o13))],[]⟩) ?_ ?_
 ·have h:=ho
  clear ho
  refine ww ?_
  refine Af h (fun g14 h=>ww ?_) (fun g14 h=>ww ?_)
  ·cases h
   exact eM [] rfl
  cases h
  exact eM [] rfl
 rintro _ rfl
 clear ho
 refine ww ?_
 cases h
 exact eF []
def F179_l1:List ByteArray→Nat→(List (ByteArray×Bool))→Option ((Bool) ⊕ (Unit))
 |[],o1_1,o1_0=>some (Sum.inr (()))
 |xo1::xs,o1_1,o1_0=>(((F176 xo1).bind fun t4=>(if(nb t4)=true then some true else some (((getM xo1 o1_0).getD false)))).bind fun o3=>(if o3=true then(some false).map Sum.inl else F179_l1 xs (o1_1+1) ((B2 xo1 true o1_0))))
def F179(x0:(List ByteArray)):Option (Bool):=(((ck (0≤x0.length∧x0.length≤4294967290)).bind fun u7=>F179_l1 x0 0 ([]):Option ((Bool) ⊕ (Unit))).bind fun o1=>match o1 with|Sum.inl f=>some f|Sum.inr po1=>some (decide ((x0.length:Int)≤16)))
def a179:AFn:=⟨27,[(.tmp 2)],
 (.seq (.reg [Qf 2 false])
 (.seq (.reg [sq 6 (.mkmap),
Qa 3 6])
 (.seq (.seq (.reg [Qa 7 0,
Qh 8 7,
Qe 9 0])
 (.sem (.block 0 (.loop (.seq (.reg [Qn 10 9 8])
 (.seq (.cond (.t 10)
 .skip
 (.exit 0))
 (.seq (.block 1 (.seq (.reg [Qp 11 1 7 9,
Qd 12 11,
Qa 5 12])
 (.seq (.seq (.sem (.reg [Qa 13 5,
Qk 14 176 13,
Qq 15 14,
Qa 16 15,
Qv 17 16 false 3,
Qv 18 16 false 5,
zg 19 16 false (.mget 1 false (.c (dB false)) (.t 17) (.t 18)),
Qj 20 16 19]))
 (.cond (.t 20)
 (.seq (.reg [Qf 2 false])
 .ret)
 .skip))
 (.reg [Qa 21 3,
Qa 22 5,
⟨none,none,.mset 1 (.t 21) (.t 22) (kB true),[],(.lone [])⟩]))))
 (.reg [Qm 23 9 1,
Qa 9 23]))))))))
 (.seq (.reg [Qa 24 0,
Qh 25 24,
sq 26 (.bin .leq (.t 25) (kI 16)),
Qa 2 26])
 .ret))))⟩
theorem F179_ok{x0 r}(h:F179 x0=some r):An Tryz.prog 179 [.c (dM (x0.map eS))] [] (AL [.c (dB r)]) []:=by
 rw[F179]at h
 refine zc a179 (by kernel_rfl) rfl (ww ?_)
 refine Ln (κ:=ByteArray) (α:=Bool) (enc:=(fun x=> .v (.bool x))) Value.string (ww ?_)
 obtain⟨o1,ho,h⟩:=bi h
 refine AB (fun s=>∃po1,o1=Sum.inr po1∧s=⟨[(0,oc (dM (x0.map eS)))],[]⟩) ?_ ?_
 ·have h0o1:=h
  have h:=ho
  clear ho
  obtain⟨_,hk,h⟩:=bi h
  have hk:=AS hk
  refine ww ?_
  refine bL (fun j s=>∃(o1_1:Nat) (o1_0:List (ByteArray×Bool)),(o1_1≤x0.length∧j=x0.length-o1_1)∧s=⟨[(0,oc (dM (x0.map eS))),(3,oc (.mref 0)),(7,oc (dM (x0.map eS))),(8,oc (dI ((x0.length:Int)))),(9,oc (dI ((o1_1:Int))))],[some (.map (eM1 Value.string (fun x=> .v (.bool x)) o1_0))]⟩∧F179_l1 (x0.drop o1_1) o1_1 o1_0=some o1) (x0.length-0) [some 0] ⟨0,[],⟨hk.1,rfl⟩,rfl,h⟩ ?_
  rintro _ _ ⟨o1_1,o1_0,⟨hi,rfl⟩,rfl,h⟩
  refine ww ?_
  refine Bg (fun c2=>?_) (fun c2=>?_)
  ·obtain⟨xo1,hxo1,hd⟩:=A5 (show(o1_1:Int)<(x0.length:Int)from c2)
   rw[hd,F179_l1]at h
   refine ww ?_
   refine Az (enc:=eS) (xs:=x0) rfl rfl hxo1 rfl (ww ?_)
   obtain⟨o3,ho,h⟩:=bi h
   refine AB (fun s=>s=⟨[(0,oc (dM (x0.map eS))),(3,oc (.mref 0)),(5,oc (dS xo1)),(7,oc (dM (x0.map eS))),(8,oc (dI ((x0.length:Int)))),(9,oc (dI ((o1_1:Int)))),(20,oc (dB o3))],[some (.map (eM1 Value.string (fun x=> .v (.bool x)) o1_0))]⟩) ?_ ?_
   ·have h:=ho
    clear ho
    refine ww ?_
    obtain⟨t4,ht4,h⟩:=bi h
    refine cN [] (F176_ok ht4) trivial (ww ?_)
    refine AM h (fun g5 h=>ww ?_) (fun g5 h=>ww ?_)
    ·cases h
     exact eM [some 0] rfl
    refine NF (enc:=(fun x=> .v (.bool x))) (l:=o1_0) (z:=false) kkS rfl rfl rfl rfl (ww ?_)
    cases h
    exact eM [some 0] rfl
   rintro _ rfl
   clear ho
   refine ww ?_
   refine AE h (fun c6 h=>ww ?_) (fun c6 h=>ww ?_)
   ·obtain⟨fh0o1,hfh0o1,rfl⟩:=Option.map_eq_some_iff.1 h
    have h:=hfh0o1.trans h0o1
    cases h
    exact eF []
   refine I8 (enc:=(fun x=> .v (.bool x))) (l:=o1_0) (x:=true) kkS rfl rfl rfl rfl (ww ?_)
   rw[AW (by omega)]
   exact eL' (x0.length-(o1_1+1)) [some 0] ⟨o1_1+1,(B2 xo1 true o1_0),⟨by omega,rfl⟩,rfl,h⟩ (by omega)
  rw[A6 (show¬((o1_1:Int)<(x0.length:Int))from c2),F179_l1]at h
  refine ww ?_
  cases h
  exact eM [] ⟨_,rfl,rfl⟩
 rintro _ ⟨po1,rfl,rfl⟩
 clear ho
 dsimp only at h
 refine ww ?_
 cases h
 exact eF []
def F198(x0:Ab):Option (Bool):=(if x0.Kind=1 then(((if x0.S=(⟨#[]⟩:ByteArray)then(if x0.N=0 then some true else some (decide (x0.N=1)))else some false)).bind fun o2=>some o2)else(if x0.Kind=2 then(((if x0.S=(⟨#[]⟩:ByteArray)then(if(-1000000000000000)≤x0.N then some (decide (x0.N≤1000000000000000))else some false)else some false)).bind fun o6=>some o6)else(if x0.Kind=3 then(((if x0.N=0 then(F205 x0.S).bind fun t12=>some t12 else some false)).bind fun o10=>some o10)else(((if x0.Kind=0 then some (decide (x0.Kind=0))else(if x0.Kind=4 then some (decide (x0.Kind=4))else some (decide (x0.Kind=5))))).bind fun o13=>(if o13=true then(((if x0.N=0 then some (decide (x0.S=(⟨#[]⟩:ByteArray)))else some false)).bind fun o17=>some o17)else some false)))))
def a198:AFn:=⟨57,[(.tmp 2)],
 (.seq (.reg [Qg 1 0,
Qf 2 false])
 (.seq (.seq (.reg [Qb 3 0 1,
Qd 4 3])
 (.block 0 (.seq (.reg [Qr 6 4 1,
Qa 5 6])
 (.cond (.t 5)
 (.seq (.sem (.reg [Qb 7 2 1,
Qd 8 7,
sq 9 (.bin .eql (.t 8) (kS ⟨#[]⟩)),
Qa 10 9,
Qs 11 10 true 1 1,
Qt 12 10 true 11,
zg 13 10 true (.bin .eql (.t 12) (kI 0)),
Qv 14 10 true 13,
Qs 15 14 false 1 1,
Qt 16 14 false 15,
zg 17 14 false (.bin .eql (.t 16) (kI 1)),
zg 18 10 true (.pick (.t 14) (kB true) (.t 17)),
Qi 19 10 18,
Qa 2 19]))
 .ret)
 (.seq (.reg [Qr 21 4 2,
Qa 20 21])
 (.cond (.t 20)
 (.seq (.sem (.reg [Qb 22 2 1,
Qd 23 22,
sq 24 (.bin .eql (.t 23) (kS ⟨#[]⟩)),
Qa 25 24,
Qs 26 25 true 1 1,
Qt 27 25 true 26,
zg 28 25 true (.bin .geq (.t 27) (kI (-1000000000000000))),
Qi 29 25 28,
Qa 30 29,
Qs 31 30 true 1 1,
Qt 32 30 true 31,
zg 33 30 true (.bin .leq (.t 32) (kI 1000000000000000)),
Qi 34 30 33,
Qa 2 34]))
 .ret)
 (.seq (.reg [Qr 36 4 3,
Qa 35 36])
 (.cond (.t 35)
 (.seq (.sem (.reg [Qb 37 1 1,
Qd 38 37,
Qr 39 38 0,
Qa 40 39,
Qs 41 40 true 2 1,
Qt 42 40 true 41,
zg 43 40 true (.call 205 [(.t 42)]),
Qi 44 40 43,
Qa 2 44]))
 .ret)
 (.seq (.sem (.seq (.reg [Qr 46 4 0,
Qa 45 46])
 (.cond (.t 45)
 .skip
 (.seq (.reg [Qr 47 4 4,
Qa 45 47])
 (.cond (.t 45)
 .skip
 (.reg [Qr 48 4 5,
Qa 45 48]))))))
 (.cond (.t 45)
 (.seq (.sem (.reg [Qb 49 1 1,
Qd 50 49,
Qr 51 50 0,
Qa 52 51,
Qs 53 52 true 2 1,
Qt 54 52 true 53,
zg 55 52 true (.bin .eql (.t 54) (kS ⟨#[]⟩)),
Qi 56 52 55,
Qa 2 56]))
 .ret)
 .skip))))))))))
 (.seq (.reg [Qf 2 false])
 .ret)))⟩
theorem F198_ok{x0 r}(h:F198 x0=some r):An Tryz.prog 198 [.agg (AJ x0)] [] (AL [.c (dB r)]) []:=by
 rw[F198]at h
 refine zc a198 (by kernel_rfl) rfl (ww ?_)
 refine AH h (fun c1 h=>ww ?_) (fun c1 h=>ww ?_)
 ·obtain⟨o2,ho,h⟩:=bi h
  refine AB (fun s=>s=⟨[(2,oc (dB o2))],[]⟩) ?_ ?_
  ·have h:=ho
   clear ho
   refine ww ?_
   refine Af h (fun g3 h=>ww ?_) (fun g3 h=>ww ?_)
   ·refine Af h (fun g4 h=>ww ?_) (fun g4 h=>ww ?_)
    ·cases h
     exact eM [] rfl
    cases h
    exact eM [] rfl
   cases h
   exact eM [] rfl
  rintro _ rfl
  clear ho
  refine ww ?_
  cases h
  exact eF []
 refine AH h (fun c5 h=>ww ?_) (fun c5 h=>ww ?_)
 ·obtain⟨o6,ho,h⟩:=bi h
  refine AB (fun s=>s=⟨[(2,oc (dB o6))],[]⟩) ?_ ?_
  ·have h:=ho
   clear ho
   refine ww ?_
   refine Af h (fun g7 h=>ww ?_) (fun g7 h=>ww ?_)
   ·refine Af h (fun g8 h=>ww ?_) (fun g8 h=>ww ?_)
    ·cases h
     exact eM [] rfl
    cases h
    exact eM [] rfl
   cases h
   exact eM [] rfl
  rintro _ rfl
  clear ho
  refine ww ?_
  cases h
  exact eF []
 refine AH h (fun c9 h=>ww ?_) (fun c9 h=>ww ?_)
 ·obtain⟨o10,ho,h⟩:=bi h
  refine AB (fun s=>s=⟨[(2,oc (dB o10))],[]⟩) ?_ ?_
  ·have h:=ho
   clear ho
   refine ww ?_
   refine Af h (fun g11 h=>ww ?_) (fun g11 h=>ww ?_)
   ·obtain⟨t12,ht12,h⟩:=bi h
    refine cN [] (F205_ok ht12) trivial (ww ?_)
    cases h
    exact eM [] rfl
   cases h
   exact eM [] rfl
  rintro _ rfl
  clear ho
  refine ww ?_
  cases h
  exact eF []
 obtain⟨o13,ho,h⟩:=bi h
 refine AB (fun s=>s=⟨[(1,Pz 0),(45,oc (dB o13))],[xb (AJ x0)]⟩) ?_ ?_
 ·have h:=ho
  clear ho
  refine ww ?_
  refine AH h (fun c14 h=>ww ?_) (fun c14 h=>ww ?_)
  ·cases h
   exact eM [some 0] rfl
  refine AH h (fun c15 h=>ww ?_) (fun c15 h=>ww ?_)
  ·cases h
   exact eM [some 0] rfl
  cases h
  exact eM [some 0] rfl
 rintro _ rfl
 clear ho
 refine ww ?_
 refine AE h (fun c16 h=>ww ?_) (fun c16 h=>ww ?_)
 ·obtain⟨o17,ho,h⟩:=bi h
  refine AB (fun s=>s=⟨[(2,oc (dB o17))],[]⟩) ?_ ?_
  ·have h:=ho
   clear ho
   refine ww ?_
   refine Af h (fun g18 h=>ww ?_) (fun g18 h=>ww ?_)
   ·cases h
    exact eM [] rfl
   cases h
   exact eM [] rfl
  rintro _ rfl
  clear ho
  refine ww ?_
  cases h
  exact eF []
 cases h
 exact eF []
def F153(x0:AI)(x1:AI):Option (Bool):=(((if x0.Name=x1.Name then(F152 x0.Ae x1.Ae).bind fun t3=>some t3 else some false)).bind fun o1=>some o1)
def a153:AFn:=⟨17,[(.tmp 4)],
 (.seq (.reg [Qg 2 0,
Qg 3 1,
Qf 4 false])
 (.seq (.sem (.reg [Qb 5 0 2,
Qd 6 5,
Qb 7 0 3,
Qd 8 7,
sq 9 (.bin .eql (.t 6) (.t 8)),
Qa 10 9,
Qs 11 10 true 1 2,
Qt 12 10 true 11,
Qs 13 10 true 1 3,
Qt 14 10 true 13,
zg 15 10 true (.call 152 [(.t 12),(.t 14)]),
Qi 16 10 15,
Qa 4 16]))
 .ret))⟩
theorem F153_ok{x0 x1 r}(h:F153 x0 x1=some r):An Tryz.prog 153 [.agg [dS x0.Name,dM (x0.Ae.map eS)],.agg [dS x1.Name,dM (x1.Ae.map eS)]] [] (AL [.c (dB r)]) []:=by
 rw[F153]at h
 refine zc a153 (by kernel_rfl) rfl (ww ?_)
 obtain⟨o1,ho,h⟩:=bi h
 refine AB (fun s=>s=⟨[(4,oc (dB o1))],[]⟩) ?_ ?_
 ·have h:=ho
  clear ho
  refine ww ?_
  refine Af h (fun g2 h=>ww ?_) (fun g2 h=>ww ?_)
  ·obtain⟨t3,ht3,h⟩:=bi h
   refine cN [] (F152_ok ht3) trivial (ww ?_)
   cases h
   exact eM [] rfl
  cases h
  exact eM [] rfl
 rintro _ rfl
 clear ho
 refine ww ?_
 cases h
 exact eF []
def F93(x0:Ah)(x1:(List Label)):Option (Bool):=(F125 x1 x0.Key).bind fun t1=>(if x0.Op=1 then(((if t1.2=true then(F126 x0.Aq t1.1).bind fun t5=>some t5 else some false)).bind fun o3=>some o3)else(if x0.Op=2 then(((if(nb t1.2)=true then some true else(F126 x0.Aq t1.1).bind fun t9=>some (nb t9))).bind fun o7=>some o7)else(((if x0.Op=3 then(if t1.2=true then some true else(if x0.Op=4 then some (nb t1.2)else some false))else(if x0.Op=4 then some (nb t1.2)else some false))).bind fun o10=>some o10)))
def a93:AFn:=⟨51,[(.tmp 4)],
 (.seq (.reg [Qg 2 0,
Qf 4 false])
 (.seq (.reg [Qa 8 1,
Qb 9 0 2,
Qd 10 9,
Ql 11 125 8 10,
Qa 7 11,
Qo 12 7 0,
Qo 13 7 1,
Qa 5 12,
Qa 6 13])
 (.seq (.seq (.reg [Qb 14 1 2,
Qd 15 14,
Qr 16 15 1])
 (.cond (.t 16)
 (.seq (.sem (.reg [Qa 17 6,
Qa 18 17,
Qs 19 18 true 2 2,
Qt 20 18 true 19,
Qv 21 18 true 5,
zg 22 18 true (.call 126 [(.t 20),(.t 21)]),
Qi 23 18 22,
Qa 4 23]))
 .ret)
 .skip))
 (.seq (.seq (.reg [Qb 24 1 2,
Qd 25 24,
Qr 26 25 2])
 (.cond (.t 26)
 (.seq (.sem (.reg [Qa 27 6,
Qq 28 27,
Qa 29 28,
Qs 30 29 false 2 2,
Qt 31 29 false 30,
Qv 32 29 false 5,
zg 33 29 false (.call 126 [(.t 31),(.t 32)]),
zg 34 29 false (.not (.t 33)),
Qj 35 29 34,
Qa 4 35]))
 .ret)
 .skip))
 (.seq (.sem (.reg [Qb 36 1 2,
Qd 37 36,
Qr 38 37 3,
Qa 39 38,
Qv 40 39 true 6,
Qi 41 39 40,
Qa 42 41,
Qs 43 42 false 1 2,
Qt 44 42 false 43,
zg 45 42 false (.bin .eql (.t 44) (kI 4)),
Qv 46 42 false 45,
Qv 47 46 true 6,
zg 48 46 true (.not (.t 47)),
zg 49 42 false (.pick (.t 46) (.t 48) (kB false)),
Qj 50 42 49,
Qa 4 50]))
 .ret)))))⟩
theorem F93_ok{x0 x1 r}(h:F93 x0 x1=some r):An Tryz.prog 93 [.agg (By x0),.c (dM (x1.map AY))] [] (AL [.c (dB r)]) []:=by
 rw[F93]at h
 refine zc a93 (by kernel_rfl) rfl (ww ?_)
 obtain⟨t1,ht1,h⟩:=bi h
 refine cN [] (F125_ok ht1) trivial (ww ?_)
 refine AH h (fun c2 h=>ww ?_) (fun c2 h=>ww ?_)
 ·obtain⟨o3,ho,h⟩:=bi h
  refine AB (fun s=>s=⟨[(4,oc (dB o3))],[]⟩) ?_ ?_
  ·have h:=ho
   clear ho
   refine ww ?_
   refine AM h (fun g4 h=>ww ?_) (fun g4 h=>ww ?_)
   ·obtain⟨t5,ht5,h⟩:=bi h
    refine cN [] (F126_ok ht5) trivial (ww ?_)
    cases h
    exact eM [] rfl
   cases h
   exact eM [] rfl
  rintro _ rfl
  clear ho
  refine ww ?_
  cases h
  exact eF []
 refine AH h (fun c6 h=>ww ?_) (fun c6 h=>ww ?_)
 ·obtain⟨o7,ho,h⟩:=bi h
  refine AB (fun s=>s=⟨[(4,oc (dB o7))],[]⟩) ?_ ?_
  ·have h:=ho
   clear ho
   refine ww ?_
   refine AM h (fun g8 h=>ww ?_) (fun g8 h=>ww ?_)
   ·cases h
    exact eM [] rfl
   obtain⟨t9,ht9,h⟩:=bi h
   refine cN [] (F126_ok ht9) trivial (ww ?_)
   cases h
   exact eM [] rfl
  rintro _ rfl
  clear ho
  refine ww ?_
  cases h
  exact eF []
 obtain⟨o10,ho,h⟩:=bi h
 refine AB (fun s=>s=⟨[(4,oc (dB o10))],[]⟩) ?_ ?_
 ·have h:=ho
  clear ho
  refine ww ?_
  refine Af h (fun g11 h=>ww ?_) (fun g11 h=>ww ?_)
  ·refine AM h (fun g12 h=>ww ?_) (fun g12 h=>ww ?_)
   ·cases h
    exact eM [] rfl
   refine Af h (fun g13 h=>ww ?_) (fun g13 h=>ww ?_)
   ·cases h
    exact eM [] rfl
   cases h
   exact eM [] rfl
  refine Af h (fun g14 h=>ww ?_) (fun g14 h=>ww ?_)
  ·cases h
   exact eM [] rfl
  cases h
  exact eM [] rfl
 rintro _ rfl
 clear ho
 refine ww ?_
 cases h
 exact eF []
end Go.Proofs.YtdkmamiedcanfaaGreat
