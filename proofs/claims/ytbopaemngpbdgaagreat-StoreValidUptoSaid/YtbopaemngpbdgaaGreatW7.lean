/- Each Go function as a function over typed data, and its walk. -/
import Derived.Test.YtbopaemngpbdgaaGreatW0
import Derived.Test.YtbopaemngpbdgaaGreatW1
import Derived.Test.YtbopaemngpbdgaaGreatW2
import Derived.Test.YtbopaemngpbdgaaGreatW3
import Derived.Test.YtbopaemngpbdgaaGreatW4
import Derived.Test.YtbopaemngpbdgaaGreatW5
import Derived.Test.YtbopaemngpbdgaaGreatW6
namespace Go.Proofs.YtbopaemngpbdgaaGreat
open Go Go.Fw Go.Shelf
set_option maxRecDepth 100000
set_option maxHeartbeats 4000000
set_option linter.unusedSimpArgs false
set_option linter.unusedVariables false
def F79(x0:Meta):Option (Bool):=(((if(if x0.DeleteAt<(if x0.Created<(if x0.Generation<(if x0.Version<x0.Uid then x0.Version else x0.Uid)then x0.Generation else(if x0.Version<x0.Uid then x0.Version else x0.Uid))then x0.Created else(if x0.Generation<(if x0.Version<x0.Uid then x0.Version else x0.Uid)then x0.Generation else(if x0.Version<x0.Uid then x0.Version else x0.Uid)))then x0.DeleteAt else(if x0.Created<(if x0.Generation<(if x0.Version<x0.Uid then x0.Version else x0.Uid)then x0.Generation else(if x0.Version<x0.Uid then x0.Version else x0.Uid))then x0.Created else(if x0.Generation<(if x0.Version<x0.Uid then x0.Version else x0.Uid)then x0.Generation else(if x0.Version<x0.Uid then x0.Version else x0.Uid))))<0 then some true else(if(nb x0.Deleting)=true then some (decide (¬(x0.DeleteAt=0)))else some false))).bind fun o1=>(if o1=true then some false else(((F103 x0.Kind).bind fun t6=>(if t6=true then(F104 x0.Namespace).bind fun t8=>(if t8=true then(F105 x0.Name).bind fun t10=>(if t10=true then(F106 x0.Labels).bind fun t12=>(if t12=true then(F107 x0.Owners).bind fun t14=>(if t14=true then(F108 x0.Finalizers).bind fun t16=>(if t16=true then(F109 x0.Managers).bind fun t18=>some t18 else some false)else some false)else some false)else some false)else some false)else some false)).bind fun o5=>some o5)))
def a79:AFn:=⟨58,[(.tmp 2)],
 (.seq (.reg [sq 1 (.box (.t 0)),
sq 2 (.mv (kB false))])
 (.seq (.seq (.sem (.reg [sq 3 (.fieldA 3 (.t 1)),
sq 4 (.load none (.t 3)),
sq 5 (.fieldA 4 (.t 1)),
sq 6 (.load none (.t 5)),
sq 7 (.fieldA 5 (.t 1)),
sq 8 (.load none (.t 7)),
sq 9 (.fieldA 6 (.t 1)),
sq 10 (.load none (.t 9)),
sq 11 (.fieldA 8 (.t 1)),
sq 12 (.load none (.t 11)),
sq 13 (.mins (.t 4) [(.t 6),(.t 8),(.t 10),(.t 12)]),
sq 14 (.bin .lss (.t 13) (kI 0)),
sq 15 (.mv (.t 14)),
zg 16 15 false (.fieldA 7 (.t 1)),
zg 17 15 false (.load none (.t 16)),
zg 18 15 false (.not (.t 17)),
zg 19 15 false (.mv (.t 18)),
zg 20 19 true (.fieldA 8 (.t 1)),
zg 21 19 true (.load none (.t 20)),
zg 22 19 true (.bin .neq (.t 21) (kI 0)),
zg 23 15 false (.pick (.t 19) (.t 22) (kB false)),
sq 24 (.pick (.t 15) (kB true) (.t 23))]))
 (.cond (.t 24)
 (.seq (.reg [sq 2 (.mv (kB false))])
 .ret)
 .skip))
 (.seq (.sem (.reg [sq 25 (.fieldA 0 (.t 1)),
sq 26 (.load none (.t 25)),
sq 27 (.call 103 [(.t 26)]),
sq 28 (.mv (.t 27)),
zg 29 28 true (.fieldA 1 (.t 1)),
zg 30 28 true (.load none (.t 29)),
zg 31 28 true (.call 104 [(.t 30)]),
sq 32 (.pick (.t 28) (.t 31) (kB false)),
sq 33 (.mv (.t 32)),
zg 34 33 true (.fieldA 2 (.t 1)),
zg 35 33 true (.load none (.t 34)),
zg 36 33 true (.call 105 [(.t 35)]),
sq 37 (.pick (.t 33) (.t 36) (kB false)),
sq 38 (.mv (.t 37)),
zg 39 38 true (.fieldA 9 (.t 1)),
zg 40 38 true (.load none (.t 39)),
zg 41 38 true (.call 106 [(.t 40)]),
sq 42 (.pick (.t 38) (.t 41) (kB false)),
sq 43 (.mv (.t 42)),
zg 44 43 true (.fieldA 10 (.t 1)),
zg 45 43 true (.load none (.t 44)),
zg 46 43 true (.call 107 [(.t 45)]),
sq 47 (.pick (.t 43) (.t 46) (kB false)),
sq 48 (.mv (.t 47)),
zg 49 48 true (.fieldA 11 (.t 1)),
zg 50 48 true (.load none (.t 49)),
zg 51 48 true (.call 108 [(.t 50)]),
sq 52 (.pick (.t 48) (.t 51) (kB false)),
sq 53 (.mv (.t 52)),
zg 54 53 true (.fieldA 12 (.t 1)),
zg 55 53 true (.load none (.t 54)),
zg 56 53 true (.call 109 [(.t 55)]),
sq 57 (.pick (.t 53) (.t 56) (kB false)),
sq 2 (.mv (.t 57))]))
 .ret)))⟩
theorem F79_ok{x0 r}(h:F79 x0=some r):CallD Tryz.prog 79 [.agg [dS x0.Kind,dS x0.Namespace,dS x0.Name,dI x0.Uid,dI x0.Version,dI x0.Generation,dI x0.Created,dB x0.Deleting,dI x0.DeleteAt,dM (x0.Labels.map eLabel),dM (x0.Owners.map eOwner),dM (x0.Finalizers.map eS),dM (x0.Managers.map eManager)]] [] (tupV [.c (dB r)]) []:=by
 rw[F79]at h
 refine zc a79 (by kernel_rfl) rfl (ww ?_)
 obtain⟨o1,ho,h⟩:=bi h
 refine cutS (fun s=>s=⟨[(1,.one (.c (.pt 0 0))),(24,.one (.c (dB o1)))],[some (.box [dS x0.Kind,dS x0.Namespace,dS x0.Name,dI x0.Uid,dI x0.Version,dI x0.Generation,dI x0.Created,dB x0.Deleting,dI x0.DeleteAt,dM (x0.Labels.map eLabel),dM (x0.Owners.map eOwner),dM (x0.Finalizers.map eS),dM (x0.Managers.map eManager)])]⟩) ?_ ?_
 ·have h:=ho
  clear ho
  refine ww ?_
  refine guardSh h (fun g2 h=>?_) (fun g2 h=>?_)
  ·refine ww ?_
   cases h
   exact eM [some 0] rfl
  refine ww ?_
  refine guardSBh h (fun g3 h=>?_) (fun g3 h=>?_)
  ·refine ww ?_
   cases h
   exact eM [some 0] rfl
  refine ww ?_
  cases h
  exact eM [some 0] rfl
 rintro _ rfl
 clear ho
 refine ww ?_
 refine condBh h (fun c4 h=>?_) (fun c4 h=>?_)
 ·refine ww ?_
  cases h
  exact eF []
 refine ww ?_
 obtain⟨o5,ho,h⟩:=bi h
 refine cutS (fun s=>s=⟨[(2,.one (.c (dB o5)))],[]⟩) ?_ ?_
 ·have h:=ho
  clear ho
  refine ww ?_
  obtain⟨t6,ht6,h⟩:=bi h
  refine cN [] (F103_ok ht6) trivial (ww ?_)
  refine guardSBh h (fun g7 h=>?_) (fun g7 h=>?_)
  ·refine ww ?_
   obtain⟨t8,ht8,h⟩:=bi h
   refine cN [] (F104_ok ht8) trivial (ww ?_)
   refine guardSBh h (fun g9 h=>?_) (fun g9 h=>?_)
   ·refine ww ?_
    obtain⟨t10,ht10,h⟩:=bi h
    refine cN [] (F105_ok ht10) trivial (ww ?_)
    refine guardSBh h (fun g11 h=>?_) (fun g11 h=>?_)
    ·refine ww ?_
     obtain⟨t12,ht12,h⟩:=bi h
     refine cN [] (F106_ok ht12) trivial (ww ?_)
     refine guardSBh h (fun g13 h=>?_) (fun g13 h=>?_)
     ·refine ww ?_
      obtain⟨t14,ht14,h⟩:=bi h
      refine cN [] (F107_ok ht14) trivial (ww ?_)
      refine guardSBh h (fun g15 h=>?_) (fun g15 h=>?_)
      ·refine ww ?_
       obtain⟨t16,ht16,h⟩:=bi h
       refine cN [] (F108_ok ht16) trivial (ww ?_)
       refine guardSBh h (fun g17 h=>?_) (fun g17 h=>?_)
       ·refine ww ?_
        obtain⟨t18,ht18,h⟩:=bi h
        refine cN [] (F109_ok ht18) trivial (ww ?_)
        cases h
        exact eM [] rfl
       refine ww ?_
       cases h
       exact eM [] rfl
      refine ww ?_
      cases h
      exact eM [] rfl
     refine ww ?_
     cases h
     exact eM [] rfl
    refine ww ?_
    cases h
    exact eM [] rfl
   refine ww ?_
   cases h
   exact eM [] rfl
  refine ww ?_
  cases h
  exact eM [] rfl
 rintro _ rfl
 clear ho
 refine ww ?_
 cases h
 exact eF []
def F80(x0:TValue):Option (Bool):=(((F110k 1099511627776 x0 12).bind fun t2=>(if t2=true then(F111k 1099511627776 x0).bind fun t4=>some (decide (t4≤600))else some false)).bind fun o1=>some o1)
def a80:AFn:=⟨10,[(.tmp 2)],
 (.seq (.reg [sq 1 (.box (.t 0)),
sq 2 (.mv (kB false))])
 (.seq (.sem (.reg [sq 3 (.load (some 5) (.t 1)),
sq 4 (.call 110 [(.t 3),(kI 12)]),
sq 5 (.mv (.t 4)),
zg 6 5 true (.load (some 5) (.t 1)),
zg 7 5 true (.call 111 [(.t 6)]),
zg 8 5 true (.bin .leq (.t 7) (kI 600)),
sq 9 (.pick (.t 5) (.t 8) (kB false)),
sq 2 (.mv (.t 9))]))
 .ret))⟩
theorem F80_ok{x0 r}(h:F80 x0=some r):CallD Tryz.prog 80 [.agg [dI x0.Kind,dI x0.N,dS x0.S,dM (x0.List_.map eTValue),dM (x0.Fields.map eTField)]] [] (tupV [.c (dB r)]) []:=by
 rw[F80]at h
 refine zc a80 (by kernel_rfl) rfl (ww ?_)
 obtain⟨o1,ho,h⟩:=bi h
 refine cutS (fun s=>s=⟨[(2,.one (.c (dB o1)))],[]⟩) ?_ ?_
 ·have h:=ho
  clear ho
  refine ww ?_
  obtain⟨t2,ht2,h⟩:=bi h
  refine cN [] (F110k_ok 1099511627776 ht2) trivial (ww ?_)
  refine guardSBh h (fun g3 h=>?_) (fun g3 h=>?_)
  ·refine ww ?_
   obtain⟨t4,ht4,h⟩:=bi h
   refine cN [] (F111k_ok 1099511627776 ht4) trivial (ww ?_)
   cases h
   exact eM [] rfl
  refine ww ?_
  cases h
  exact eM [] rfl
 rintro _ rfl
 clear ho
 refine ww ?_
 cases h
 exact eF []
def F38(x0:Object):Option (Bool):=(((F79 x0.Meta).bind fun t2=>(if t2=true then(F80 x0.Spec).bind fun t4=>(if t4=true then(F80 x0.Status).bind fun t6=>some t6 else some false)else some false)).bind fun o1=>some o1)
def a38:AFn:=⟨16,[(.tmp 2)],
 (.seq (.reg [sq 1 (.box (.t 0)),
sq 2 (.mv (kB false))])
 (.seq (.sem (.reg [sq 3 (.fieldA 0 (.t 1)),
sq 4 (.load (some 13) (.t 3)),
sq 5 (.call 79 [(.t 4)]),
sq 6 (.mv (.t 5)),
zg 7 6 true (.fieldA 13 (.t 1)),
zg 8 6 true (.load (some 5) (.t 7)),
zg 9 6 true (.call 80 [(.t 8)]),
sq 10 (.pick (.t 6) (.t 9) (kB false)),
sq 11 (.mv (.t 10)),
zg 12 11 true (.fieldA 18 (.t 1)),
zg 13 11 true (.load (some 5) (.t 12)),
zg 14 11 true (.call 80 [(.t 13)]),
sq 15 (.pick (.t 11) (.t 14) (kB false)),
sq 2 (.mv (.t 15))]))
 .ret))⟩
theorem F38_ok{x0 r}(h:F38 x0=some r):CallD Tryz.prog 38 [.agg [dS x0.Meta.Kind,dS x0.Meta.Namespace,dS x0.Meta.Name,dI x0.Meta.Uid,dI x0.Meta.Version,dI x0.Meta.Generation,dI x0.Meta.Created,dB x0.Meta.Deleting,dI x0.Meta.DeleteAt,dM (x0.Meta.Labels.map eLabel),dM (x0.Meta.Owners.map eOwner),dM (x0.Meta.Finalizers.map eS),dM (x0.Meta.Managers.map eManager),dI x0.Spec.Kind,dI x0.Spec.N,dS x0.Spec.S,dM (x0.Spec.List_.map eTValue),dM (x0.Spec.Fields.map eTField),dI x0.Status.Kind,dI x0.Status.N,dS x0.Status.S,dM (x0.Status.List_.map eTValue),dM (x0.Status.Fields.map eTField)]] [] (tupV [.c (dB r)]) []:=by
 rw[F38]at h
 refine zc a38 (by kernel_rfl) rfl (ww ?_)
 obtain⟨o1,ho,h⟩:=bi h
 refine cutS (fun s=>s=⟨[(2,.one (.c (dB o1)))],[]⟩) ?_ ?_
 ·have h:=ho
  clear ho
  refine ww ?_
  obtain⟨t2,ht2,h⟩:=bi h
  refine cN [] (F79_ok ht2) trivial (ww ?_)
  refine guardSBh h (fun g3 h=>?_) (fun g3 h=>?_)
  ·refine ww ?_
   obtain⟨t4,ht4,h⟩:=bi h
   refine cN [] (F80_ok ht4) trivial (ww ?_)
   refine guardSBh h (fun g5 h=>?_) (fun g5 h=>?_)
   ·refine ww ?_
    obtain⟨t6,ht6,h⟩:=bi h
    refine cN [] (F80_ok ht6) trivial (ww ?_)
    cases h
    exact eM [] rfl
   refine ww ?_
   cases h
   exact eM [] rfl
  refine ww ?_
  cases h
  exact eM [] rfl
 rintro _ rfl
 clear ho
 refine ww ?_
 cases h
 exact eF []
def F55_l1(x1:ByteArray):List Object→Nat→Option ((Int) ⊕ (Unit))
 |[],o1_0=>some (Sum.inr (()))
 |xo1::xs,o1_0=>(F56 xo1).bind fun t3=>(if t3=x1 then(some ((o1_0:Int))).map Sum.inl else F55_l1 x1 xs (o1_0+1))
def F55(x0:(List Object))(x1:ByteArray):Option (Int):=(((ck (0≤x0.length∧x0.length≤4294967290)).bind fun u5=>F55_l1 x1 x0 0:Option ((Int) ⊕ (Unit))).bind fun o1=>match o1 with|Sum.inl f=>some f|Sum.inr po1=>some ((-1)))
def a55:AFn:=⟨20,[(.tmp 4)],
 (.seq (.reg [sq 4 (.mv (kI 0))])
 (.seq (.seq (.reg [sq 5 (.mv (kI 0))])
 (.sem (.block 0 (.loop (.seq (.seq (.reg [sq 6 (.mv (.t 5)),
sq 7 (.mv (.t 0)),
sq 8 (.len (.t 7)),
sq 9 (.bin .lss (.t 6) (.t 8))])
 (.cond (.t 9)
 .skip
 (.exit 0)))
 (.seq (.block 1 (.seq (.reg [sq 12 (.mv (.t 0)),
sq 13 (.mv (.t 5)),
sq 14 (.indexA 23 (.t 12) (.t 13)),
sq 15 (.load (some 23) (.t 14)),
sq 16 (.call 56 [(.t 15)]),
sq 17 (.mv (.t 1)),
sq 18 (.bin .eql (.t 16) (.t 17))])
 (.cond (.t 18)
 (.seq (.reg [sq 19 (.mv (.t 5)),
sq 4 (.mv (.t 19))])
 .ret)
 .skip)))
 (.reg [sq 10 (.mv (.t 5)),
sq 11 (.bin .add (.t 10) (kI 1)),
sq 5 (.mv (.t 11))])))))))
 (.seq (.reg [sq 4 (.mv (kI (-1)))])
 .ret)))⟩
theorem F55_ok{x0 x1 r}(h:F55 x0 x1=some r):CallD Tryz.prog 55 [.c (dM (x0.map eObject)),.c (dS x1)] [] (tupV [.c (dI r)]) []:=by
 rw[F55]at h
 refine zc a55 (by kernel_rfl) rfl (ww ?_)
 obtain⟨o1,ho,h⟩:=bi h
 refine cutS (fun s=>∃po1,o1=Sum.inr po1∧s=⟨[],[]⟩) ?_ ?_
 ·have h0o1:=h
  have h:=ho
  clear ho
  obtain⟨_,hk,h⟩:=bi h
  have hk:=ck_some hk
  refine ww ?_
  refine bL (fun j s=>∃(o1_0:Nat),(o1_0≤x0.length∧j=x0.length-o1_0)∧s=⟨[(0,.one (.c (dM (x0.map eObject)))),(1,.one (.c (dS x1))),(5,.one (.c (dI ((o1_0:Int)))))],[]⟩∧F55_l1 x1 (x0.drop o1_0) o1_0=some o1) (x0.length-0) [] ⟨0,⟨hk.1,rfl⟩,rfl,h⟩ ?_
  rintro _ _ ⟨o1_0,⟨hi,rfl⟩,rfl,h⟩
  refine ww ?_
  refine condS (fun c2=>?_) (fun c2=>?_)
  ·obtain⟨xo1,hxo1,hd⟩:=countY (show(o1_0:Int)<(x0.length:Int)from c2)
   rw[hd,F55_l1]at h
   refine ww ?_
   refine t_idxF (enc:=eObject) (xs:=x0) rfl rfl hxo1 rfl (ww ?_)
   obtain⟨t3,ht3,h⟩:=bi h
   refine cN [] (F56_ok ht3) trivial (ww ?_)
   refine condSh h (fun c4 h=>?_) (fun c4 h=>?_)
   ·refine ww ?_
    obtain⟨fh0o1,hfh0o1,rfl⟩:=Option.map_eq_some_iff.1 h
    have h:=hfh0o1.trans h0o1
    cases h
    exact eF []
   refine ww ?_
   rw[wrapN (by omega)]
   exact eL' (x0.length-(o1_0+1)) [] ⟨o1_0+1,⟨by omega,rfl⟩,rfl,h⟩ (by omega)
  rw[countN (show¬((o1_0:Int)<(x0.length:Int))from c2),F55_l1]at h
  refine ww ?_
  cases h
  exact eM [] ⟨_,rfl,rfl⟩
 rintro _ ⟨po1,rfl,rfl⟩
 clear ho
 dsimp only at h
 refine ww ?_
 cases h
 exact eF []
def F94_l1(x1:Object):List Object→Nat→(List Object)→Bool→Option ((List Object)×Bool)
 |[],o1_2,o1_0,o1_1=>some ((o1_0,o1_1))
 |xo1::xs,o1_2,o1_0,o1_1=>(((((((if(nb o1_1)=true then(F56 xo1).bind fun t7=>(F56 x1).bind fun t8=>some (nb (Op.bytesLess t7.toList t8.toList))else some false)).bind fun o5=>(if o5=true then(apI o1_0 ([x1])).bind fun a10=>(F56 xo1).bind fun t11=>(F56 x1).bind fun t12=>(if t11=t12 then(some ((a10,true))).map Sum.inl else some (Sum.inr ((a10,true))))else some (Sum.inr ((o1_0,o1_1))))):Option (((List Object)×Bool) ⊕ ((List Object)×Bool))).bind fun o4=>match o4 with|Sum.inl f=>some f|Sum.inr po4=>(apI po4.1 ([xo1])).bind fun a14=>some ((a14,po4.2)))).bind fun o3=>F94_l1 x1 xs (o1_2+1) o3.1 o3.2)
def F94(x0:(List Object))(x1:Object):Option ((List Object)):=(((ck (0≤x0.length∧x0.length≤4294967290)).bind fun u15=>F94_l1 x1 x0 0 ([]) false).bind fun o1=>(if(nb o1.2)=true then(apI o1.1 ([x1])).bind fun a17=>some a17 else some o1.1))
def a94:AFn:=⟨53,[(.tmp 4)],
 (.seq (.reg [sq 3 (.box (.t 1)),
sq 4 (.mv kN)])
 (.seq (.reg [sq 8 (.bslice 23 []),
sq 5 (.mv (.t 8))])
 (.seq (.reg [sq 6 (.mv (kB false))])
 (.seq (.seq (.reg [sq 7 (.mv (kI 0))])
 (.sem (.block 0 (.loop (.seq (.seq (.reg [sq 9 (.mv (.t 7)),
sq 10 (.mv (.t 0)),
sq 11 (.len (.t 10)),
sq 12 (.bin .lss (.t 9) (.t 11))])
 (.cond (.t 12)
 .skip
 (.exit 0)))
 (.seq (.sem (.block 1 (.seq (.sem (.seq (.sem (.regd [sq 15 (.mv (.t 6)),
sd 16 (.not (.t 15)) [0],
sd 17 (.mv (.t 16)) [0,1],
⟨(some 18),(some (17,true)),.mv (.t 0),[0,1,2],(.new [])⟩,
⟨(some 19),(some (17,true)),.mv (.t 7),[0,1,2],(.new [])⟩,
⟨(some 20),(some (17,true)),.indexA 23 (.t 18) (.t 19),[0,1,2,3,4],(.new [])⟩,
⟨(some 21),(some (17,true)),.load (some 23) (.t 20),[0,1,2,3,4,5],(.new [])⟩,
⟨(some 22),(some (17,true)),.call 56 [(.t 21)],[0,1,2,3,4,5,6],(.new [3,4,5,6])⟩,
⟨(some 23),(some (17,true)),.load (some 23) (.t 3),[0,1,2],(.new [])⟩,
⟨(some 24),(some (17,true)),.call 56 [(.t 23)],[0,1,2,3,4,5,6,7,8],(.lone [])⟩,
⟨(some 25),(some (17,true)),.bin .geq (.t 22) (.t 24),[0,1,2,3,4,5,6,7,8,9],(.new [])⟩,
zl 26 (.pick (.t 17) (.t 25) (kB false)) [0,1,2,3,4,5,6,7,8,9,10] []]))
 (.cond (.t 26)
 (.seq (.reg [sq 27 (.mv (.t 5)),
sq 28 (.load (some 23) (.t 3)),
sq 29 (.bslice 23 [(.t 28)]),
sq 30 (.app 23 352 (.t 27) (.t 29)),
sq 5 (.mv (.t 30))])
 (.seq (.reg [sq 6 (.mv (kB true))])
 (.seq (.regd [sq 31 (.mv (.t 0)),
sq 32 (.mv (.t 7)),
sd 33 (.indexA 23 (.t 31) (.t 32)) [0,1],
sd 34 (.load (some 23) (.t 33)) [0,1,2],
zn 35 (.call 56 [(.t 34)]) [0,1,2,3] [0,1,2,3],
sq 36 (.load (some 23) (.t 3)),
zl 37 (.call 56 [(.t 36)]) [0,1,2,3,4,5] [],
sd 38 (.bin .eql (.t 35) (.t 37)) [0,1,2,3,4,5,6]])
 (.cond (.t 38)
 (.exit 1)
 .skip))))
 .skip)))
 (.reg [sq 39 (.mv (.t 5)),
sq 40 (.mv (.t 0)),
sq 41 (.mv (.t 7)),
sq 42 (.indexA 23 (.t 40) (.t 41)),
sq 43 (.load (some 23) (.t 42)),
sq 44 (.bslice 23 [(.t 43)]),
sq 45 (.app 23 352 (.t 39) (.t 44)),
sq 5 (.mv (.t 45))]))))
 (.reg [sq 13 (.mv (.t 7)),
sq 14 (.bin .add (.t 13) (kI 1)),
sq 7 (.mv (.t 14))])))))))
 (.seq (.seq (.reg [sq 46 (.mv (.t 6)),
sq 47 (.not (.t 46))])
 (.cond (.t 47)
 (.reg [sq 48 (.mv (.t 5)),
sq 49 (.load (some 23) (.t 3)),
sq 50 (.bslice 23 [(.t 49)]),
sq 51 (.app 23 352 (.t 48) (.t 50)),
sq 5 (.mv (.t 51))])
 .skip))
 (.seq (.reg [sq 52 (.mv (.t 5)),
sq 4 (.mv (.t 52))])
 .ret))))))⟩
theorem F94_ok{x0 x1 r}(h:F94 x0 x1=some r):CallD Tryz.prog 94 [.c (dM (x0.map eObject)),.agg [dS x1.Meta.Kind,dS x1.Meta.Namespace,dS x1.Meta.Name,dI x1.Meta.Uid,dI x1.Meta.Version,dI x1.Meta.Generation,dI x1.Meta.Created,dB x1.Meta.Deleting,dI x1.Meta.DeleteAt,dM (x1.Meta.Labels.map eLabel),dM (x1.Meta.Owners.map eOwner),dM (x1.Meta.Finalizers.map eS),dM (x1.Meta.Managers.map eManager),dI x1.Spec.Kind,dI x1.Spec.N,dS x1.Spec.S,dM (x1.Spec.List_.map eTValue),dM (x1.Spec.Fields.map eTField),dI x1.Status.Kind,dI x1.Status.N,dS x1.Status.S,dM (x1.Status.List_.map eTValue),dM (x1.Status.Fields.map eTField)]] [] (tupV [.c (.own 0 0 0 (r.length) none)]) [some (.arr 0 23 (r.map eObject))]:=by
 rw[F94]at h
 refine zc a94 (by kernel_rfl) rfl (ww ?_)
 refine t_bslice (enc:=eObject) (ys:=([]:List Object)) rfl rfl (by simp[A1.cells]) (by first|rfl|(simp only[List.drop_zero,take_mapL];rfl)|(simp only[lit,List.map_cons,List.map_nil,List.drop_zero,take_mapL,EE.down];done)|(simp only[lit,List.map_cons,List.map_nil,List.drop_zero,take_mapL,EE.down];rfl)) (ww ?_)
 obtain⟨o1,ho,h⟩:=bi h
 refine cutS (fun s=>s=⟨[(3,.one (.c (.pt 0 0))),(5,.one (.c (.own 1 0 0 (o1.1.length) none))),(6,.one (.c (dB o1.2)))],[some (.box [dS x1.Meta.Kind,dS x1.Meta.Namespace,dS x1.Meta.Name,dI x1.Meta.Uid,dI x1.Meta.Version,dI x1.Meta.Generation,dI x1.Meta.Created,dB x1.Meta.Deleting,dI x1.Meta.DeleteAt,dM (x1.Meta.Labels.map eLabel),dM (x1.Meta.Owners.map eOwner),dM (x1.Meta.Finalizers.map eS),dM (x1.Meta.Managers.map eManager),dI x1.Spec.Kind,dI x1.Spec.N,dS x1.Spec.S,dM (x1.Spec.List_.map eTValue),dM (x1.Spec.Fields.map eTField),dI x1.Status.Kind,dI x1.Status.N,dS x1.Status.S,dM (x1.Status.List_.map eTValue),dM (x1.Status.Fields.map eTField)]),some (.arr 0 23 (o1.1.map eObject))]⟩) ?_ ?_
 ·have h:=ho
  clear ho
  obtain⟨_,hk,h⟩:=bi h
  have hk:=ck_some hk
  refine ww ?_
  refine bL (fun j s=>∃(o1_2:Nat) (o1_0:List Object) (o1_1:Bool),(o1_2≤x0.length∧j=x0.length-o1_2)∧s=⟨[(0,.one (.c (dM (x0.map eObject)))),(3,.one (.c (.pt 0 0))),(5,.one (.c (.own 1 0 0 (o1_0.length) none))),(6,.one (.c (dB o1_1))),(7,.one (.c (dI ((o1_2:Int)))))],[some (.box [dS x1.Meta.Kind,dS x1.Meta.Namespace,dS x1.Meta.Name,dI x1.Meta.Uid,dI x1.Meta.Version,dI x1.Meta.Generation,dI x1.Meta.Created,dB x1.Meta.Deleting,dI x1.Meta.DeleteAt,dM (x1.Meta.Labels.map eLabel),dM (x1.Meta.Owners.map eOwner),dM (x1.Meta.Finalizers.map eS),dM (x1.Meta.Managers.map eManager),dI x1.Spec.Kind,dI x1.Spec.N,dS x1.Spec.S,dM (x1.Spec.List_.map eTValue),dM (x1.Spec.Fields.map eTField),dI x1.Status.Kind,dI x1.Status.N,dS x1.Status.S,dM (x1.Status.List_.map eTValue),dM (x1.Status.Fields.map eTField)]),some (.arr 0 23 (o1_0.map eObject))]⟩∧F94_l1 x1 (x0.drop o1_2) o1_2 o1_0 o1_1=some o1) (x0.length-0) [some 0,some 1] ⟨0,[],false,⟨hk.1,rfl⟩,rfl,h⟩ ?_
  rintro _ _ ⟨o1_2,o1_0,o1_1,⟨hi,rfl⟩,rfl,h⟩
  refine ww ?_
  refine condS (fun c2=>?_) (fun c2=>?_)
  ·obtain⟨xo1,hxo1,hd⟩:=countY (show(o1_2:Int)<(x0.length:Int)from c2)
   rw[hd,F94_l1]at h
   refine ww ?_
   obtain⟨o3,ho,h⟩:=bi h
   refine cutS (fun s=>s=⟨[(0,.one (.c (dM (x0.map eObject)))),(3,.one (.c (.pt 0 0))),(5,.one (.c (.own 1 0 0 (o3.1.length) none))),(6,.one (.c (dB o3.2))),(7,.one (.c (dI ((o1_2:Int)))))],[some (.box [dS x1.Meta.Kind,dS x1.Meta.Namespace,dS x1.Meta.Name,dI x1.Meta.Uid,dI x1.Meta.Version,dI x1.Meta.Generation,dI x1.Meta.Created,dB x1.Meta.Deleting,dI x1.Meta.DeleteAt,dM (x1.Meta.Labels.map eLabel),dM (x1.Meta.Owners.map eOwner),dM (x1.Meta.Finalizers.map eS),dM (x1.Meta.Managers.map eManager),dI x1.Spec.Kind,dI x1.Spec.N,dS x1.Spec.S,dM (x1.Spec.List_.map eTValue),dM (x1.Spec.Fields.map eTField),dI x1.Status.Kind,dI x1.Status.N,dS x1.Status.S,dM (x1.Status.List_.map eTValue),dM (x1.Status.Fields.map eTField)]),some (.arr 0 23 (o3.1.map eObject))]⟩) ?_ ?_
   ·have h:=ho
    clear ho
    refine ww ?_
    obtain⟨o4,ho,h⟩:=bi h
    refine cutS (fun s=>∃po4,o4=Sum.inr po4∧s=⟨[(0,.one (.c (dM (x0.map eObject)))),(3,.one (.c (.pt 0 0))),(5,.one (.c (.own 1 0 0 (po4.1.length) none))),(6,.one (.c (dB po4.2))),(7,.one (.c (dI ((o1_2:Int)))))],[some (.box [dS x1.Meta.Kind,dS x1.Meta.Namespace,dS x1.Meta.Name,dI x1.Meta.Uid,dI x1.Meta.Version,dI x1.Meta.Generation,dI x1.Meta.Created,dB x1.Meta.Deleting,dI x1.Meta.DeleteAt,dM (x1.Meta.Labels.map eLabel),dM (x1.Meta.Owners.map eOwner),dM (x1.Meta.Finalizers.map eS),dM (x1.Meta.Managers.map eManager),dI x1.Spec.Kind,dI x1.Spec.N,dS x1.Spec.S,dM (x1.Spec.List_.map eTValue),dM (x1.Spec.Fields.map eTField),dI x1.Status.Kind,dI x1.Status.N,dS x1.Status.S,dM (x1.Status.List_.map eTValue),dM (x1.Status.Fields.map eTField)]),some (.arr 0 23 (po4.1.map eObject))]⟩) ?_ ?_
    ·have h0o4:=h
     have h:=ho
     clear ho
     refine ww ?_
     obtain⟨o5,ho,h⟩:=bi h
     refine cutS (fun s=>s=⟨[(0,.one (.c (dM (x0.map eObject)))),(3,.one (.c (.pt 0 0))),(5,.one (.c (.own 1 0 0 (o1_0.length) none))),(6,.one (.c (dB o1_1))),(7,.one (.c (dI ((o1_2:Int))))),(26,.one (.c (dB o5)))],[some (.box [dS x1.Meta.Kind,dS x1.Meta.Namespace,dS x1.Meta.Name,dI x1.Meta.Uid,dI x1.Meta.Version,dI x1.Meta.Generation,dI x1.Meta.Created,dB x1.Meta.Deleting,dI x1.Meta.DeleteAt,dM (x1.Meta.Labels.map eLabel),dM (x1.Meta.Owners.map eOwner),dM (x1.Meta.Finalizers.map eS),dM (x1.Meta.Managers.map eManager),dI x1.Spec.Kind,dI x1.Spec.N,dS x1.Spec.S,dM (x1.Spec.List_.map eTValue),dM (x1.Spec.Fields.map eTField),dI x1.Status.Kind,dI x1.Status.N,dS x1.Status.S,dM (x1.Status.List_.map eTValue),dM (x1.Status.Fields.map eTField)]),some (.arr 0 23 (o1_0.map eObject))]⟩) ?_ ?_
     ·have h:=ho
      clear ho
      refine ww ?_
      refine guardDBh h (fun g6 h=>?_) (fun g6 h=>?_)
      ·refine ww ?_
       refine t_idxF (enc:=eObject) (xs:=x0) rfl rfl hxo1 rfl (ww ?_)
       obtain⟨t7,ht7,h⟩:=bi h
       refine cN [] (F56_ok ht7) trivial (ww ?_)
       obtain⟨t8,ht8,h⟩:=bi h
       refine cN [] (F56_ok ht8) trivial (ww ?_)
       cases h
       exact eM [some 0,some 1] rfl
      refine ww ?_
      cases h
      exact eM [some 0,some 1] rfl
     rintro _ rfl
     clear ho
     refine ww ?_
     refine condBh h (fun c9 h=>?_) (fun c9 h=>?_)
     ·refine ww ?_
      refine t_bslice (enc:=eObject) (ys:=[x1]) rfl rfl (by simp[A1.cells]) (by first|rfl|(simp only[List.drop_zero,take_mapL];rfl)|(simp only[lit,List.map_cons,List.map_nil,List.drop_zero,take_mapL,EE.down];done)|(simp only[lit,List.map_cons,List.map_nil,List.drop_zero,take_mapL,EE.down];rfl)) (ww ?_)
      obtain⟨a10,ha10,h⟩:=bi h
      refine t_app (enc:=eObject) (xs:=o1_0) rfl rfl (by first|rfl|simp only[List.length_set]|exact(clrL_len (slI_len (by assumption))).symm) rfl (rows_full (enc:=eObject) (by first|rfl|simp only[List.length_set]|exact(clrL_len (slI_len (by assumption))).symm) rfl) ha10 (ww ?_)
      refine t_idxF (enc:=eObject) (xs:=x0) rfl rfl hxo1 rfl (ww ?_)
      obtain⟨t11,ht11,h⟩:=bi h
      refine cN [] (F56_ok ht11) trivial (ww ?_)
      obtain⟨t12,ht12,h⟩:=bi h
      refine cN [] (F56_ok ht12) trivial (ww ?_)
      refine condSh h (fun c13 h=>?_) (fun c13 h=>?_)
      ·refine ww ?_
       obtain⟨fh0o4,hfh0o4,rfl⟩:=Option.map_eq_some_iff.1 h
       have h:=hfh0o4.trans h0o4
       cases h
       exact eM [some 0,some 1] rfl
      refine ww ?_
      cases h
      exact eM [some 0,some 1] ⟨_,rfl,rfl⟩
     refine ww ?_
     cases h
     exact eM [some 0,some 1] ⟨_,rfl,rfl⟩
    rintro _ ⟨po4,rfl,rfl⟩
    clear ho
    dsimp only at h
    refine ww ?_
    refine t_idxF (enc:=eObject) (xs:=x0) rfl rfl hxo1 rfl (ww ?_)
    refine t_bslice (enc:=eObject) (ys:=[xo1]) rfl rfl (by simp[A1.cells]) (by first|rfl|(simp only[List.drop_zero,take_mapL];rfl)|(simp only[lit,List.map_cons,List.map_nil,List.drop_zero,take_mapL,EE.down];done)|(simp only[lit,List.map_cons,List.map_nil,List.drop_zero,take_mapL,EE.down];rfl)) (ww ?_)
    obtain⟨a14,ha14,h⟩:=bi h
    refine t_app (enc:=eObject) (xs:=po4.1) rfl rfl (by first|rfl|simp only[List.length_set]|exact(clrL_len (slI_len (by assumption))).symm) rfl (rows_full (enc:=eObject) (by first|rfl|simp only[List.length_set]|exact(clrL_len (slI_len (by assumption))).symm) rfl) ha14 (ww ?_)
    cases h
    exact eM [some 0,some 1] rfl
   rintro _ rfl
   clear ho
   refine ww ?_
   rw[wrapN (by omega)]
   exact eL' (x0.length-(o1_2+1)) [some 0,some 1] ⟨o1_2+1,o3.1,o3.2,⟨by omega,rfl⟩,rfl,h⟩ (by omega)
  rw[countN (show¬((o1_2:Int)<(x0.length:Int))from c2),F94_l1]at h
  refine ww ?_
  cases h
  exact eM [some 0,some 1] rfl
 rintro _ rfl
 clear ho
 refine ww ?_
 refine condBh h (fun c16 h=>?_) (fun c16 h=>?_)
 ·refine ww ?_
  refine t_bslice (enc:=eObject) (ys:=[x1]) rfl rfl (by simp[A1.cells]) (by first|rfl|(simp only[List.drop_zero,take_mapL];rfl)|(simp only[lit,List.map_cons,List.map_nil,List.drop_zero,take_mapL,EE.down];done)|(simp only[lit,List.map_cons,List.map_nil,List.drop_zero,take_mapL,EE.down];rfl)) (ww ?_)
  obtain⟨a17,ha17,h⟩:=bi h
  refine t_app (enc:=eObject) (xs:=o1.1) rfl rfl (by first|rfl|simp only[List.length_set]|exact(clrL_len (slI_len (by assumption))).symm) rfl (rows_full (enc:=eObject) (by first|rfl|simp only[List.length_set]|exact(clrL_len (slI_len (by assumption))).symm) rfl) ha17 (ww ?_)
  cases h
  exact eF [some 1]
 refine ww ?_
 cases h
 exact eF [some 1]
def F95_l1(x1:ByteArray):List Object→Nat→(List Object)→Option ((List Object))
 |[],o1_1,o1_0=>some o1_0
 |xo1::xs,o1_1,o1_0=>(((F56 xo1).bind fun t4=>(if¬(t4=x1)then(apI o1_0 ([xo1])).bind fun a6=>some a6 else some o1_0)).bind fun o3=>F95_l1 x1 xs (o1_1+1) o3)
def F95(x0:(List Object))(x1:ByteArray):Option ((List Object)):=(((ck (0≤x0.length∧x0.length≤4294967290)).bind fun u7=>F95_l1 x1 x0 0 ([])).bind fun o1=>some o1)
def a95:AFn:=⟨29,[(.tmp 4)],
 (.seq (.reg [sq 4 (.mv kN)])
 (.seq (.reg [sq 7 (.bslice 23 []),
sq 5 (.mv (.t 7))])
 (.seq (.seq (.reg [sq 6 (.mv (kI 0))])
 (.sem (.block 0 (.loop (.seq (.seq (.reg [sq 8 (.mv (.t 6)),
sq 9 (.mv (.t 0)),
sq 10 (.len (.t 9)),
sq 11 (.bin .lss (.t 8) (.t 10))])
 (.cond (.t 11)
 .skip
 (.exit 0)))
 (.seq (.sem (.block 1 (.seq (.reg [sq 14 (.mv (.t 0)),
sq 15 (.mv (.t 6)),
sq 16 (.indexA 23 (.t 14) (.t 15)),
sq 17 (.load (some 23) (.t 16)),
sq 18 (.call 56 [(.t 17)]),
sq 19 (.mv (.t 1)),
sq 20 (.bin .neq (.t 18) (.t 19))])
 (.cond (.t 20)
 (.reg [sq 21 (.mv (.t 5)),
sq 22 (.mv (.t 0)),
sq 23 (.mv (.t 6)),
sq 24 (.indexA 23 (.t 22) (.t 23)),
sq 25 (.load (some 23) (.t 24)),
sq 26 (.bslice 23 [(.t 25)]),
sq 27 (.app 23 352 (.t 21) (.t 26)),
sq 5 (.mv (.t 27))])
 .skip))))
 (.reg [sq 12 (.mv (.t 6)),
sq 13 (.bin .add (.t 12) (kI 1)),
sq 6 (.mv (.t 13))])))))))
 (.seq (.reg [sq 28 (.mv (.t 5)),
sq 4 (.mv (.t 28))])
 .ret))))⟩
theorem F95_ok{x0 x1 r}(h:F95 x0 x1=some r):CallD Tryz.prog 95 [.c (dM (x0.map eObject)),.c (dS x1)] [] (tupV [.c (.own 0 0 0 (r.length) none)]) [some (.arr 0 23 (r.map eObject))]:=by
 rw[F95]at h
 refine zc a95 (by kernel_rfl) rfl (ww ?_)
 refine t_bslice (enc:=eObject) (ys:=([]:List Object)) rfl rfl (by simp[A1.cells]) (by first|rfl|(simp only[List.drop_zero,take_mapL];rfl)|(simp only[lit,List.map_cons,List.map_nil,List.drop_zero,take_mapL,EE.down];done)|(simp only[lit,List.map_cons,List.map_nil,List.drop_zero,take_mapL,EE.down];rfl)) (ww ?_)
 obtain⟨o1,ho,h⟩:=bi h
 refine cutS (fun s=>s=⟨[(5,.one (.c (.own 0 0 0 (o1.length) none)))],[some (.arr 0 23 (o1.map eObject))]⟩) ?_ ?_
 ·have h:=ho
  clear ho
  obtain⟨_,hk,h⟩:=bi h
  have hk:=ck_some hk
  refine ww ?_
  refine bL (fun j s=>∃(o1_1:Nat) (o1_0:List Object),(o1_1≤x0.length∧j=x0.length-o1_1)∧s=⟨[(0,.one (.c (dM (x0.map eObject)))),(1,.one (.c (dS x1))),(5,.one (.c (.own 0 0 0 (o1_0.length) none))),(6,.one (.c (dI ((o1_1:Int)))))],[some (.arr 0 23 (o1_0.map eObject))]⟩∧F95_l1 x1 (x0.drop o1_1) o1_1 o1_0=some o1) (x0.length-0) [some 0] ⟨0,[],⟨hk.1,rfl⟩,rfl,h⟩ ?_
  rintro _ _ ⟨o1_1,o1_0,⟨hi,rfl⟩,rfl,h⟩
  refine ww ?_
  refine condS (fun c2=>?_) (fun c2=>?_)
  ·obtain⟨xo1,hxo1,hd⟩:=countY (show(o1_1:Int)<(x0.length:Int)from c2)
   rw[hd,F95_l1]at h
   refine ww ?_
   obtain⟨o3,ho,h⟩:=bi h
   refine cutS (fun s=>s=⟨[(0,.one (.c (dM (x0.map eObject)))),(1,.one (.c (dS x1))),(5,.one (.c (.own 0 0 0 (o3.length) none))),(6,.one (.c (dI ((o1_1:Int)))))],[some (.arr 0 23 (o3.map eObject))]⟩) ?_ ?_
   ·have h:=ho
    clear ho
    refine ww ?_
    refine t_idxF (enc:=eObject) (xs:=x0) rfl rfl hxo1 rfl (ww ?_)
    obtain⟨t4,ht4,h⟩:=bi h
    refine cN [] (F56_ok ht4) trivial (ww ?_)
    refine condSh h (fun c5 h=>?_) (fun c5 h=>?_)
    ·refine ww ?_
     refine t_idxF (enc:=eObject) (xs:=x0) rfl rfl hxo1 rfl (ww ?_)
     refine t_bslice (enc:=eObject) (ys:=[xo1]) rfl rfl (by simp[A1.cells]) (by first|rfl|(simp only[List.drop_zero,take_mapL];rfl)|(simp only[lit,List.map_cons,List.map_nil,List.drop_zero,take_mapL,EE.down];done)|(simp only[lit,List.map_cons,List.map_nil,List.drop_zero,take_mapL,EE.down];rfl)) (ww ?_)
     obtain⟨a6,ha6,h⟩:=bi h
     refine t_app (enc:=eObject) (xs:=o1_0) rfl rfl (by first|rfl|simp only[List.length_set]|exact(clrL_len (slI_len (by assumption))).symm) rfl (rows_full (enc:=eObject) (by first|rfl|simp only[List.length_set]|exact(clrL_len (slI_len (by assumption))).symm) rfl) ha6 (ww ?_)
     cases h
     exact eM [some 0] rfl
    refine ww ?_
    cases h
    exact eM [some 0] rfl
   rintro _ rfl
   clear ho
   refine ww ?_
   rw[wrapN (by omega)]
   exact eL' (x0.length-(o1_1+1)) [some 0] ⟨o1_1+1,o3,⟨by omega,rfl⟩,rfl,h⟩ (by omega)
  rw[countN (show¬((o1_1:Int)<(x0.length:Int))from c2),F95_l1]at h
  refine ww ?_
  cases h
  exact eM [some 0] rfl
 rintro _ rfl
 clear ho
 refine ww ?_
 cases h
 exact eF [some 0]
def F57(x0:(List Object))(x1:Change):Option ((List Object)):=(if x1.Kind=1 then(F94 x0 x1.Object).bind fun t2=>some t2 else(F56 x1.Object).bind fun t3=>(F95 x0 t3).bind fun t4=>some t4)
def a57:AFn:=⟨17,[(.tmp 4)],
 (.seq (.reg [sq 3 (.box (.t 1)),
sq 4 (.mv kN)])
 (.seq (.seq (.reg [sq 5 (.fieldA 1 (.t 3)),
sq 6 (.load none (.t 5)),
sq 7 (.bin .eql (.t 6) (kI 1))])
 (.cond (.t 7)
 (.seq (.reg [sq 8 (.mv (.t 0)),
sq 9 (.fieldA 2 (.t 3)),
sq 10 (.load (some 23) (.t 9)),
sq 11 (.call 94 [(.t 8),(.t 10)]),
sq 4 (.mv (.t 11))])
 .ret)
 .skip))
 (.seq (.reg [sq 12 (.mv (.t 0)),
sq 13 (.fieldA 2 (.t 3)),
sq 14 (.load (some 23) (.t 13)),
sq 15 (.call 56 [(.t 14)]),
sq 16 (.call 95 [(.t 12),(.t 15)]),
sq 4 (.mv (.t 16))])
 .ret)))⟩
theorem F57_ok{x0 x1 r}(h:F57 x0 x1=some r):CallD Tryz.prog 57 [.c (dM (x0.map eObject)),.agg [dI x1.Rev,dI x1.Kind,dS x1.Object.Meta.Kind,dS x1.Object.Meta.Namespace,dS x1.Object.Meta.Name,dI x1.Object.Meta.Uid,dI x1.Object.Meta.Version,dI x1.Object.Meta.Generation,dI x1.Object.Meta.Created,dB x1.Object.Meta.Deleting,dI x1.Object.Meta.DeleteAt,dM (x1.Object.Meta.Labels.map eLabel),dM (x1.Object.Meta.Owners.map eOwner),dM (x1.Object.Meta.Finalizers.map eS),dM (x1.Object.Meta.Managers.map eManager),dI x1.Object.Spec.Kind,dI x1.Object.Spec.N,dS x1.Object.Spec.S,dM (x1.Object.Spec.List_.map eTValue),dM (x1.Object.Spec.Fields.map eTField),dI x1.Object.Status.Kind,dI x1.Object.Status.N,dS x1.Object.Status.S,dM (x1.Object.Status.List_.map eTValue),dM (x1.Object.Status.Fields.map eTField)]] [] (tupV [.c (.own 0 0 0 (r.length) none)]) [some (.arr 0 23 (r.map eObject))]:=by
 rw[F57]at h
 refine zc a57 (by kernel_rfl) rfl (ww ?_)
 refine condSh h (fun c1 h=>?_) (fun c1 h=>?_)
 ·refine ww ?_
  obtain⟨t2,ht2,h⟩:=bi h
  refine cN [] (F94_ok ht2) trivial (ww ?_)
  cases h
  exact eF [some 1]
 refine ww ?_
 obtain⟨t3,ht3,h⟩:=bi h
 refine cN [] (F56_ok ht3) trivial (ww ?_)
 obtain⟨t4,ht4,h⟩:=bi h
 refine cN [] (F95_ok ht4) trivial (ww ?_)
 cases h
 exact eF [some 1]
def F24(x0:Object)(x1:Object):Option (Bool):=(((F63 x0.Meta x1.Meta).bind fun t2=>(if t2=true then(F64 x0.Spec x1.Spec).bind fun t4=>(if t4=true then(F64 x0.Status x1.Status).bind fun t6=>some t6 else some false)else some false)).bind fun o1=>some o1)
def a24:AFn:=⟨24,[(.tmp 4)],
 (.seq (.reg [sq 2 (.box (.t 0)),
sq 3 (.box (.t 1)),
sq 4 (.mv (kB false))])
 (.seq (.sem (.reg [sq 5 (.fieldA 0 (.t 2)),
sq 6 (.load (some 13) (.t 5)),
sq 7 (.fieldA 0 (.t 3)),
sq 8 (.load (some 13) (.t 7)),
sq 9 (.call 63 [(.t 6),(.t 8)]),
sq 10 (.mv (.t 9)),
zg 11 10 true (.fieldA 13 (.t 2)),
zg 12 10 true (.load (some 5) (.t 11)),
zg 13 10 true (.fieldA 13 (.t 3)),
zg 14 10 true (.load (some 5) (.t 13)),
zg 15 10 true (.call 64 [(.t 12),(.t 14)]),
sq 16 (.pick (.t 10) (.t 15) (kB false)),
sq 17 (.mv (.t 16)),
zg 18 17 true (.fieldA 18 (.t 2)),
zg 19 17 true (.load (some 5) (.t 18)),
zg 20 17 true (.fieldA 18 (.t 3)),
zg 21 17 true (.load (some 5) (.t 20)),
zg 22 17 true (.call 64 [(.t 19),(.t 21)]),
sq 23 (.pick (.t 17) (.t 22) (kB false)),
sq 4 (.mv (.t 23))]))
 .ret))⟩
theorem F24_ok{x0 x1 r}(h:F24 x0 x1=some r):CallD Tryz.prog 24 [.agg [dS x0.Meta.Kind,dS x0.Meta.Namespace,dS x0.Meta.Name,dI x0.Meta.Uid,dI x0.Meta.Version,dI x0.Meta.Generation,dI x0.Meta.Created,dB x0.Meta.Deleting,dI x0.Meta.DeleteAt,dM (x0.Meta.Labels.map eLabel),dM (x0.Meta.Owners.map eOwner),dM (x0.Meta.Finalizers.map eS),dM (x0.Meta.Managers.map eManager),dI x0.Spec.Kind,dI x0.Spec.N,dS x0.Spec.S,dM (x0.Spec.List_.map eTValue),dM (x0.Spec.Fields.map eTField),dI x0.Status.Kind,dI x0.Status.N,dS x0.Status.S,dM (x0.Status.List_.map eTValue),dM (x0.Status.Fields.map eTField)],.agg [dS x1.Meta.Kind,dS x1.Meta.Namespace,dS x1.Meta.Name,dI x1.Meta.Uid,dI x1.Meta.Version,dI x1.Meta.Generation,dI x1.Meta.Created,dB x1.Meta.Deleting,dI x1.Meta.DeleteAt,dM (x1.Meta.Labels.map eLabel),dM (x1.Meta.Owners.map eOwner),dM (x1.Meta.Finalizers.map eS),dM (x1.Meta.Managers.map eManager),dI x1.Spec.Kind,dI x1.Spec.N,dS x1.Spec.S,dM (x1.Spec.List_.map eTValue),dM (x1.Spec.Fields.map eTField),dI x1.Status.Kind,dI x1.Status.N,dS x1.Status.S,dM (x1.Status.List_.map eTValue),dM (x1.Status.Fields.map eTField)]] [] (tupV [.c (dB r)]) []:=by
 rw[F24]at h
 refine zc a24 (by kernel_rfl) rfl (ww ?_)
 obtain⟨o1,ho,h⟩:=bi h
 refine cutS (fun s=>s=⟨[(4,.one (.c (dB o1)))],[]⟩) ?_ ?_
 ·have h:=ho
  clear ho
  refine ww ?_
  obtain⟨t2,ht2,h⟩:=bi h
  refine cN [] (F63_ok ht2) trivial (ww ?_)
  refine guardSBh h (fun g3 h=>?_) (fun g3 h=>?_)
  ·refine ww ?_
   obtain⟨t4,ht4,h⟩:=bi h
   refine cN [] (F64_ok ht4) trivial (ww ?_)
   refine guardSBh h (fun g5 h=>?_) (fun g5 h=>?_)
   ·refine ww ?_
    obtain⟨t6,ht6,h⟩:=bi h
    refine cN [] (F64_ok ht6) trivial (ww ?_)
    cases h
    exact eM [] rfl
   refine ww ?_
   cases h
   exact eM [] rfl
  refine ww ?_
  cases h
  exact eM [] rfl
 rintro _ rfl
 clear ho
 refine ww ?_
 cases h
 exact eF []
def F27_l1(x0:(List Object))(x1:(List Object)):Nat→Int→Option ((Bool) ⊕ (Unit))
 |0,_=>none
 |k+1,o1_0=>(((if o1_0<(x0.length:Int)then some (decide (o1_0<(x1.length:Int)))else some false)).bind fun o2=>(if o2=true then(rdI x0 o1_0).bind fun y5=>(rdI x1 o1_0).bind fun y6=>(F24 y5 y6).bind fun t7=>(if(nb t7)=true then(some false).map Sum.inl else F27_l1 x0 x1 k ((IntKind.i64.wrap (o1_0+1))))else some (Sum.inr (()))))
def F27(x0:(List Object))(x1:(List Object)):Option (Bool):=((F27_l1 x0 x1 1099511627776 0:Option ((Bool) ⊕ (Unit))).bind fun o1=>match o1 with|Sum.inl f=>some f|Sum.inr po1=>some (decide ((x0.length:Int)=(x1.length:Int))))
def a27:AFn:=⟨33,[(.tmp 4)],
 (.seq (.reg [sq 4 (.mv (kB false))])
 (.seq (.seq (.reg [sq 5 (.mv (kI 0))])
 (.sem (.block 0 (.loop (.seq (.seq (.sem (.reg [sq 6 (.mv (.t 5)),
sq 7 (.mv (.t 0)),
sq 8 (.len (.t 7)),
sq 9 (.bin .lss (.t 6) (.t 8)),
sq 10 (.mv (.t 9)),
zg 11 10 true (.mv (.t 5)),
zg 12 10 true (.mv (.t 1)),
zg 13 10 true (.len (.t 12)),
zg 14 10 true (.bin .lss (.t 11) (.t 13)),
zl 15 (.pick (.t 10) (.t 14) (kB false)) [] [7,12]]))
 (.cond (.t 15)
 .skip
 (.exit 0)))
 (.seq (.block 1 (.seq (.regd [sq 18 (.mv (.t 0)),
sq 19 (.mv (.t 5)),
sd 20 (.indexA 23 (.t 18) (.t 19)) [0,1],
sd 21 (.load (some 23) (.t 20)) [0,1,2],
sq 22 (.mv (.t 1)),
sq 23 (.mv (.t 5)),
sd 24 (.indexA 23 (.t 22) (.t 23)) [4,5],
sd 25 (.load (some 23) (.t 24)) [4,5,6],
zl 26 (.call 24 [(.t 21),(.t 25)]) [0,1,2,3,4,5,6,7] [],
sd 27 (.not (.t 26)) [0,1,2,3,4,5,6,7,8]])
 (.cond (.t 27)
 (.seq (.reg [sq 4 (.mv (kB false))])
 .ret)
 .skip)))
 (.reg [sq 16 (.mv (.t 5)),
sq 17 (.bin .add (.t 16) (kI 1)),
sq 5 (.mv (.t 17))])))))))
 (.seq (.reg [sq 28 (.mv (.t 0)),
sq 29 (.len (.t 28)),
sq 30 (.mv (.t 1)),
sq 31 (.len (.t 30)),
sq 32 (.bin .eql (.t 29) (.t 31)),
sq 4 (.mv (.t 32))])
 .ret)))⟩
theorem F27_ok{x0 x1 r}(h:F27 x0 x1=some r):CallD Tryz.prog 27 [.c (dM (x0.map eObject)),.c (dM (x1.map eObject))] [] (tupV [.c (dB r)]) []:=by
 rw[F27]at h
 refine zc a27 (by kernel_rfl) rfl (ww ?_)
 obtain⟨o1,ho,h⟩:=bi h
 refine cutS (fun s=>∃po1,o1=Sum.inr po1∧s=⟨[(0,.one (.c (dM (x0.map eObject)))),(1,.one (.c (dM (x1.map eObject))))],[]⟩) ?_ ?_
 ·have h0o1:=h
  have h:=ho
  clear ho
  refine ww ?_
  refine bL (fun j s=>∃(o1_0:Int),s=⟨[(0,.one (.c (dM (x0.map eObject)))),(1,.one (.c (dM (x1.map eObject)))),(5,.one (.c (dI o1_0)))],[]⟩∧F27_l1 x0 x1 j o1_0=some o1) 1099511627776 [] ⟨0,rfl,h⟩ ?_
  rintro j _ ⟨o1_0,rfl,h⟩
  cases j with
  |zero=>cases(show(none:Option _)=some _ from h)
  |succ j=>
   rw[F27_l1]at h
   refine ww ?_
   obtain⟨o2,ho,h⟩:=bi h
   refine cutS (fun s=>s=⟨[(0,.one (.c (dM (x0.map eObject)))),(1,.one (.c (dM (x1.map eObject)))),(5,.one (.c (dI o1_0))),(15,.one (.c (dB o2)))],[]⟩) ?_ ?_
   ·have h:=ho
    clear ho
    refine ww ?_
    refine guardSh h (fun g3 h=>?_) (fun g3 h=>?_)
    ·refine ww ?_
     cases h
     exact eM [] rfl
    ·refine ww ?_
     cases h
     exact eM [] rfl
   ·rintro _ rfl
    clear ho
    refine ww ?_
    refine condBh h (fun c4 h=>?_) (fun c4 h=>?_)
    ·refine ww ?_
     obtain⟨y5,hy5,h⟩:=bi h
     refine t_idxF (enc:=eObject) (xs:=x0) rfl rfl hy5 rfl (ww ?_)
     obtain⟨y6,hy6,h⟩:=bi h
     refine t_idxF (enc:=eObject) (xs:=x1) rfl rfl hy6 rfl (ww ?_)
     obtain⟨t7,ht7,h⟩:=bi h
     refine cN [] (F24_ok ht7) trivial (ww ?_)
     refine condBh h (fun c8 h=>?_) (fun c8 h=>?_)
     ·refine ww ?_
      obtain⟨fh0o1,hfh0o1,rfl⟩:=Option.map_eq_some_iff.1 h
      have h:=hfh0o1.trans h0o1
      cases h
      exact eF []
     ·refine ww ?_
      exact eL' j [] ⟨(IntKind.i64.wrap (o1_0+1)),rfl,h⟩ (Nat.lt_succ_self _)
    ·refine ww ?_
     cases h
     exact eM [] ⟨_,rfl,rfl⟩
 rintro _ ⟨po1,rfl,rfl⟩
 clear ho
 dsimp only at h
 refine ww ?_
 cases h
 exact eF []
end Go.Proofs.YtbopaemngpbdgaaGreat
