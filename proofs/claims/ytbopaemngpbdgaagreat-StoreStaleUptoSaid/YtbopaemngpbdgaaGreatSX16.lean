/- Each Go function as a function over typed data, and its walk. -/
import Derived.Test.YtbopaemngpbdgaaGreatSX
import Derived.Test.YtbopaemngpbdgaaGreatSX2
import Derived.Test.YtbopaemngpbdgaaGreatSX4
import Derived.Test.YtbopaemngpbdgaaGreatSX5
import Derived.Test.YtbopaemngpbdgaaGreatSX6
import Derived.Test.YtbopaemngpbdgaaGreatSX8
import Derived.Test.YtbopaemngpbdgaaGreatSX9
import Derived.Test.YtbopaemngpbdgaaGreatSX11
import Derived.Test.YtbopaemngpbdgaaGreatSX12
import Derived.Test.YtbopaemngpbdgaaGreatSX13
namespace Go.Proofs.YtbopaemngpbdgaaGreat
open Go Go.Fw Go.Shelf
set_option maxRecDepth 100000
set_option maxHeartbeats 4000000
set_option linter.unusedSimpArgs false
set_option linter.unusedVariables false
def F71(x0:Object)(x1:ByteArray):Option (Int):=(F37 x0.Meta).bind fun t1=>(F72 t1 x1).bind fun t2=>some t2
def a71:AFn:=⟨10,[(.tmp 4)],
 (.seq (.reg [sq 2 (.box (.t 0)),
sq 4 (.mv (kI 0))])
 (.seq (.reg [sq 5 (.fieldA 0 (.t 2)),
sq 6 (.load (some 13) (.t 5)),
sq 7 (.call 37 [(.t 6)]),
sq 8 (.mv (.t 1)),
sq 9 (.call 72 [(.t 7),(.t 8)]),
sq 4 (.mv (.t 9))])
 .ret))⟩
theorem a71_ok:afn Tryz.prog 71=some a71.er:=by kernel_rfl
theorem F71_ok{x0 x1 r}(h:F71 x0 x1=some r):CallD Tryz.prog 71 [.agg [dS x0.Meta.Kind,dS x0.Meta.Namespace,dS x0.Meta.Name,dI x0.Meta.Uid,dI x0.Meta.Version,dI x0.Meta.Generation,dI x0.Meta.Created,dB x0.Meta.Deleting,dI x0.Meta.DeleteAt,dM (x0.Meta.Labels.map eLabel),dM (x0.Meta.Owners.map eOwner),dM (x0.Meta.Finalizers.map eS),dM (x0.Meta.Managers.map eManager),dI x0.Spec.Kind,dI x0.Spec.N,dS x0.Spec.S,dM (x0.Spec.List_.map eTValue),dM (x0.Spec.Fields.map eTField),dI x0.Status.Kind,dI x0.Status.N,dS x0.Status.S,dM (x0.Status.List_.map eTValue),dM (x0.Status.Fields.map eTField)],.c (dS x1)] [] (tupV [.c (dI r)]) []:=by
 refine callS a71_ok (by simp[a71]) ?_
 rw[F71]at h
 simp only[a71,VW.down,Nat.reduceEqDiff,reduceCtorEq,Nat.reduceAdd,Nat.reduceLeDiff,Nat.reduceLT,Nat.reduceBEq,Nat.reduceSub,EE.down]
 obtain⟨t1,ht1,h⟩:=bi h
 refine cN [] (F37_ok ht1) trivial (ww ?_)
 obtain⟨t2,ht2,h⟩:=bi h
 refine cN [] (F72_ok ht2) trivial (ww ?_)
 cases h
 exact eF []
def F70_l1(x0:(List Object))(x1:ByteArray):Nat→Int→Int→Option (Int)
 |0,_,_=>none
 |k+1,o1_0,o1_1=>(if o1_0<o1_1 then(rdI x0 ((IntKind.i64.wrap ((shrV .u64 ((IntKind.u64.wrap ((IntKind.i64.wrap (o1_0+o1_1))))) 1))))).bind fun y3=>(F71 y3 x1).bind fun t4=>(if t4<0 then F70_l1 x0 x1 k ((IntKind.i64.wrap (((IntKind.i64.wrap ((shrV .u64 ((IntKind.u64.wrap ((IntKind.i64.wrap (o1_0+o1_1))))) 1))))+1))) o1_1 else F70_l1 x0 x1 k o1_0 ((IntKind.i64.wrap ((shrV .u64 ((IntKind.u64.wrap ((IntKind.i64.wrap (o1_0+o1_1))))) 1)))))else some o1_0)
def F70(x0:(List Object))(x1:ByteArray):Option (Int×Bool):=((F70_l1 x0 x1 1099511627776 0 ((x0.length:Int))).bind fun o1=>(((if o1<(x0.length:Int)then(rdI x0 o1).bind fun y8=>(F71 y8 x1).bind fun t9=>some (decide (t9=0))else some false)).bind fun o6=>some ((o1,o6))))
def a70:AFn:=⟨49,[(.tmp 6),(.tmp 7)],
 (.seq (.reg [sq 6 (.mv (kI 0)),
sq 7 (.mv (kB false))])
 (.seq (.reg [sq 12 (.mv (.t 0)),
sq 13 (.len (.t 12)),
sq 8 (.mv (.t 13))])
 (.seq (.reg [sq 14 (.mv (.t 8)),
sq 9 (.mv (kI 0)),
sq 10 (.mv (.t 14))])
 (.seq (.sem (.block 0 (.loop (.seq (.seq (.reg [sq 15 (.mv (.t 9)),
sq 16 (.mv (.t 10)),
sq 17 (.bin .lss (.t 15) (.t 16))])
 (.cond (.t 17)
 .skip
 (.exit 0)))
 (.block 1 (.seq (.reg [sq 18 (.mv (.t 9)),
sq 19 (.mv (.t 10)),
sq 20 (.bin .add (.t 18) (.t 19)),
sq 21 (.conv .u64 (.t 20)),
sq 22 (.bin .shr (.t 21) (.k (.c (.d (.v (.int .u64 1)))))),
sq 23 (.conv .i64 (.t 22)),
sq 11 (.mv (.t 23))])
 (.seq (.reg [sq 24 (.mv (.t 2)),
sq 25 (.mv (.t 0)),
sq 26 (.mv (.t 11)),
sq 27 (.indexA 23 (.t 25) (.t 26)),
sq 28 (.load (some 23) (.t 27)),
sq 29 (.mv (.t 1)),
sq 30 (.callv (.t 24) [(.t 28),(.t 29)]),
sq 31 (.bin .lss (.t 30) (kI 0))])
 (.cond (.t 31)
 (.reg [sq 32 (.mv (.t 11)),
sq 33 (.bin .add (.t 32) (kI 1)),
sq 9 (.mv (.t 33))])
 (.reg [sq 34 (.mv (.t 11)),
sq 10 (.mv (.t 34))])))))))))
 (.seq (.sem (.reg [sq 35 (.mv (.t 9)),
sq 36 (.mv (.t 9)),
sq 37 (.mv (.t 8)),
sq 38 (.bin .lss (.t 36) (.t 37)),
sq 39 (.mv (.t 38)),
zg 40 39 true (.mv (.t 2)),
zg 41 39 true (.mv (.t 0)),
zg 42 39 true (.mv (.t 9)),
zg 43 39 true (.indexA 23 (.t 41) (.t 42)),
zg 44 39 true (.load (some 23) (.t 43)),
zg 45 39 true (.mv (.t 1)),
zg 46 39 true (.callv (.t 40) [(.t 44),(.t 45)]),
zg 47 39 true (.bin .eql (.t 46) (kI 0)),
sq 48 (.pick (.t 39) (.t 47) (kB false)),
sq 6 (.mv (.t 35)),
sq 7 (.mv (.t 48))]))
 .ret)))))⟩
theorem a70_ok:afn Tryz.prog 70=some a70.er:=by kernel_rfl
theorem F70_ok{x0 x1 r}(h:F70 x0 x1=some r):CallD Tryz.prog 70 [.c (dM (x0.map eObject)),.c (dS x1),.c (.fn 71 [])] [] (tupV [.c (dI r.1),.c (dB r.2)]) []:=by
 refine callS a70_ok (by simp[a70]) ?_
 rw[F70]at h
 simp only[a70,VW.down,Nat.reduceEqDiff,reduceCtorEq,Nat.reduceAdd,Nat.reduceLeDiff,Nat.reduceLT,Nat.reduceBEq,Nat.reduceSub,EE.down]
 obtain⟨o1,ho,h⟩:=bi h
 refine cutS (fun s=>s=⟨[(0,.one (.c (dM (x0.map eObject)))),(1,.one (.c (dS x1))),(2,.one (.c (.fn 71 []))),(8,.one (.c (dI ((x0.length:Int))))),(9,.one (.c (dI o1)))],[]⟩) ?_ ?_
 ·have h:=ho
  clear ho
  refine ww ?_
  refine bL (fun j s=>∃(o1_0:Int) (o1_1:Int),s=⟨[(0,.one (.c (dM (x0.map eObject)))),(1,.one (.c (dS x1))),(2,.one (.c (.fn 71 []))),(8,.one (.c (dI ((x0.length:Int))))),(9,.one (.c (dI o1_0))),(10,.one (.c (dI o1_1)))],[]⟩∧F70_l1 x0 x1 j o1_0 o1_1=some o1) 1099511627776 [] ⟨0,(x0.length:Int),rfl,h⟩ ?_
  rintro j _ ⟨o1_0,o1_1,rfl,h⟩
  cases j with
  |zero=>cases(show(none:Option _)=some _ from h)
  |succ j=>
   rw[F70_l1]at h
   refine ww ?_
   refine condSh h (fun c2 h=>?_) (fun c2 h=>?_)
   ·refine ww ?_
    refine⟨by decide,?_⟩
    refine ww ?_
    obtain⟨y3,hy3,h⟩:=bi h
    refine t_idxF (enc:=eObject) (xs:=x0) rfl rfl hy3 rfl (ww ?_)
    obtain⟨t4,ht4,h⟩:=bi h
    refine cN [] (F71_ok ht4) trivial (ww ?_)
    refine condSh h (fun c5 h=>?_) (fun c5 h=>?_)
    ·refine ww ?_
     exact eL' j [] ⟨(IntKind.i64.wrap (((IntKind.i64.wrap ((shrV .u64 ((IntKind.u64.wrap ((IntKind.i64.wrap (o1_0+o1_1))))) 1))))+1)),o1_1,rfl,h⟩ (Nat.lt_succ_self _)
    ·refine ww ?_
     exact eL' j [] ⟨o1_0,(IntKind.i64.wrap ((shrV .u64 ((IntKind.u64.wrap ((IntKind.i64.wrap (o1_0+o1_1))))) 1))),rfl,h⟩ (Nat.lt_succ_self _)
   ·refine ww ?_
    cases h
    exact eM [] rfl
 rintro _ rfl
 clear ho
 refine ww ?_
 obtain⟨o6,ho,h⟩:=bi h
 refine cutS (fun s=>s=⟨[(6,.one (.c (dI o1))),(7,.one (.c (dB o6)))],[]⟩) ?_ ?_
 ·have h:=ho
  clear ho
  refine ww ?_
  refine guardSh h (fun g7 h=>?_) (fun g7 h=>?_)
  ·refine ww ?_
   obtain⟨y8,hy8,h⟩:=bi h
   refine t_idxF (enc:=eObject) (xs:=x0) rfl rfl hy8 rfl (ww ?_)
   obtain⟨t9,ht9,h⟩:=bi h
   refine cN [] (F71_ok ht9) trivial (ww ?_)
   cases h
   exact eM [] rfl
  refine ww ?_
  cases h
  exact eM [] rfl
 rintro _ rfl
 clear ho
 refine ww ?_
 cases h
 exact eF []
def F79(x0:Meta):Option (Bool):=(((if(if x0.DeleteAt<(if x0.Created<(if x0.Generation<(if x0.Version<x0.Uid then x0.Version else x0.Uid)then x0.Generation else(if x0.Version<x0.Uid then x0.Version else x0.Uid))then x0.Created else(if x0.Generation<(if x0.Version<x0.Uid then x0.Version else x0.Uid)then x0.Generation else(if x0.Version<x0.Uid then x0.Version else x0.Uid)))then x0.DeleteAt else(if x0.Created<(if x0.Generation<(if x0.Version<x0.Uid then x0.Version else x0.Uid)then x0.Generation else(if x0.Version<x0.Uid then x0.Version else x0.Uid))then x0.Created else(if x0.Generation<(if x0.Version<x0.Uid then x0.Version else x0.Uid)then x0.Generation else(if x0.Version<x0.Uid then x0.Version else x0.Uid))))<0 then some true else(if(nb x0.Deleting)=true then some (decide (¬(x0.DeleteAt=0)))else some false))).bind fun o1=>(if o1=true then some false else(((F103 x0.Kind).bind fun t6=>(if t6=true then(F104 x0.Namespace).bind fun t8=>(if t8=true then(F105 x0.Name).bind fun t10=>(if t10=true then(F106 x0.Labels).bind fun t12=>(if t12=true then(F107 x0.Owners).bind fun t14=>(if t14=true then(F108 x0.Finalizers).bind fun t16=>(if t16=true then(F109 x0.Managers).bind fun t18=>some t18 else some false)else some false)else some false)else some false)else some false)else some false)).bind fun o5=>some o5)))
def a79:AFn:=⟨58,[(.tmp 2)],
 (.seq (.reg [sq 1 (.box (.t 0)),
sq 2 (.mv (kB false))])
 (.seq (.seq (.sem (.reg [sq 3 (.fieldA 3 (.t 1)),
sq 4 (.load none (.t 3)),
sq 5 (.fieldA 4 (.t 1)),
sq 6 (.load none (.t 5)),
sq 7 (.fieldA 5 (.t 1)),
sq 8 (.load none (.t 7)),
sq 9 (.fieldA 6 (.t 1)),
sq 10 (.load none (.t 9)),
sq 11 (.fieldA 8 (.t 1)),
sq 12 (.load none (.t 11)),
sq 13 (.mins (.t 4) [(.t 6),(.t 8),(.t 10),(.t 12)]),
sq 14 (.bin .lss (.t 13) (kI 0)),
sq 15 (.mv (.t 14)),
zg 16 15 false (.fieldA 7 (.t 1)),
zg 17 15 false (.load none (.t 16)),
zg 18 15 false (.not (.t 17)),
zg 19 15 false (.mv (.t 18)),
zg 20 19 true (.fieldA 8 (.t 1)),
zg 21 19 true (.load none (.t 20)),
zg 22 19 true (.bin .neq (.t 21) (kI 0)),
zg 23 15 false (.pick (.t 19) (.t 22) (kB false)),
sq 24 (.pick (.t 15) (kB true) (.t 23))]))
 (.cond (.t 24)
 (.seq (.reg [sq 2 (.mv (kB false))])
 .ret)
 .skip))
 (.seq (.sem (.reg [sq 25 (.fieldA 0 (.t 1)),
sq 26 (.load none (.t 25)),
sq 27 (.call 103 [(.t 26)]),
sq 28 (.mv (.t 27)),
zg 29 28 true (.fieldA 1 (.t 1)),
zg 30 28 true (.load none (.t 29)),
zg 31 28 true (.call 104 [(.t 30)]),
sq 32 (.pick (.t 28) (.t 31) (kB false)),
sq 33 (.mv (.t 32)),
zg 34 33 true (.fieldA 2 (.t 1)),
zg 35 33 true (.load none (.t 34)),
zg 36 33 true (.call 105 [(.t 35)]),
sq 37 (.pick (.t 33) (.t 36) (kB false)),
sq 38 (.mv (.t 37)),
zg 39 38 true (.fieldA 9 (.t 1)),
zg 40 38 true (.load none (.t 39)),
zg 41 38 true (.call 106 [(.t 40)]),
sq 42 (.pick (.t 38) (.t 41) (kB false)),
sq 43 (.mv (.t 42)),
zg 44 43 true (.fieldA 10 (.t 1)),
zg 45 43 true (.load none (.t 44)),
zg 46 43 true (.call 107 [(.t 45)]),
sq 47 (.pick (.t 43) (.t 46) (kB false)),
sq 48 (.mv (.t 47)),
zg 49 48 true (.fieldA 11 (.t 1)),
zg 50 48 true (.load none (.t 49)),
zg 51 48 true (.call 108 [(.t 50)]),
sq 52 (.pick (.t 48) (.t 51) (kB false)),
sq 53 (.mv (.t 52)),
zg 54 53 true (.fieldA 12 (.t 1)),
zg 55 53 true (.load none (.t 54)),
zg 56 53 true (.call 109 [(.t 55)]),
sq 57 (.pick (.t 53) (.t 56) (kB false)),
sq 2 (.mv (.t 57))]))
 .ret)))⟩
theorem a79_ok:afn Tryz.prog 79=some a79.er:=by kernel_rfl
theorem F79_ok{x0 r}(h:F79 x0=some r):CallD Tryz.prog 79 [.agg [dS x0.Kind,dS x0.Namespace,dS x0.Name,dI x0.Uid,dI x0.Version,dI x0.Generation,dI x0.Created,dB x0.Deleting,dI x0.DeleteAt,dM (x0.Labels.map eLabel),dM (x0.Owners.map eOwner),dM (x0.Finalizers.map eS),dM (x0.Managers.map eManager)]] [] (tupV [.c (dB r)]) []:=by
 refine callS a79_ok (by simp[a79]) ?_
 rw[F79]at h
 simp only[a79,VW.down,Nat.reduceEqDiff,reduceCtorEq,Nat.reduceAdd,Nat.reduceLeDiff,Nat.reduceLT,Nat.reduceBEq,Nat.reduceSub,EE.down]
 obtain⟨o1,ho,h⟩:=bi h
 refine cutS (fun s=>s=⟨[(1,.one (.c (.pt 0 0))),(24,.one (.c (dB o1)))],[some (.box [dS x0.Kind,dS x0.Namespace,dS x0.Name,dI x0.Uid,dI x0.Version,dI x0.Generation,dI x0.Created,dB x0.Deleting,dI x0.DeleteAt,dM (x0.Labels.map eLabel),dM (x0.Owners.map eOwner),dM (x0.Finalizers.map eS),dM (x0.Managers.map eManager)])]⟩) ?_ ?_
 ·have h:=ho
  clear ho
  refine ww ?_
  refine guardSh h (fun g2 h=>?_) (fun g2 h=>?_)
  ·refine ww ?_
   cases h
   exact eM [some 0] rfl
  refine ww ?_
  refine guardSBh h (fun g3 h=>?_) (fun g3 h=>?_)
  ·refine ww ?_
   cases h
   exact eM [some 0] rfl
  refine ww ?_
  cases h
  exact eM [some 0] rfl
 rintro _ rfl
 clear ho
 refine ww ?_
 refine condBh h (fun c4 h=>?_) (fun c4 h=>?_)
 ·refine ww ?_
  cases h
  exact eF []
 refine ww ?_
 obtain⟨o5,ho,h⟩:=bi h
 refine cutS (fun s=>s=⟨[(2,.one (.c (dB o5)))],[]⟩) ?_ ?_
 ·have h:=ho
  clear ho
  refine ww ?_
  obtain⟨t6,ht6,h⟩:=bi h
  refine cN [] (F103_ok ht6) trivial (ww ?_)
  refine guardSBh h (fun g7 h=>?_) (fun g7 h=>?_)
  ·refine ww ?_
   obtain⟨t8,ht8,h⟩:=bi h
   refine cN [] (F104_ok ht8) trivial (ww ?_)
   refine guardSBh h (fun g9 h=>?_) (fun g9 h=>?_)
   ·refine ww ?_
    obtain⟨t10,ht10,h⟩:=bi h
    refine cN [] (F105_ok ht10) trivial (ww ?_)
    refine guardSBh h (fun g11 h=>?_) (fun g11 h=>?_)
    ·refine ww ?_
     obtain⟨t12,ht12,h⟩:=bi h
     refine cN [] (F106_ok ht12) trivial (ww ?_)
     refine guardSBh h (fun g13 h=>?_) (fun g13 h=>?_)
     ·refine ww ?_
      obtain⟨t14,ht14,h⟩:=bi h
      refine cN [] (F107_ok ht14) trivial (ww ?_)
      refine guardSBh h (fun g15 h=>?_) (fun g15 h=>?_)
      ·refine ww ?_
       obtain⟨t16,ht16,h⟩:=bi h
       refine cN [] (F108_ok ht16) trivial (ww ?_)
       refine guardSBh h (fun g17 h=>?_) (fun g17 h=>?_)
       ·refine ww ?_
        obtain⟨t18,ht18,h⟩:=bi h
        refine cN [] (F109_ok ht18) trivial (ww ?_)
        cases h
        exact eM [] rfl
       refine ww ?_
       cases h
       exact eM [] rfl
      refine ww ?_
      cases h
      exact eM [] rfl
     refine ww ?_
     cases h
     exact eM [] rfl
    refine ww ?_
    cases h
    exact eM [] rfl
   refine ww ?_
   cases h
   exact eM [] rfl
  refine ww ?_
  cases h
  exact eM [] rfl
 rintro _ rfl
 clear ho
 refine ww ?_
 cases h
 exact eF []
def F80(x0:TValue):Option (Bool):=(((F110k 1099511627776 x0 12).bind fun t2=>(if t2=true then(F111k 1099511627776 x0).bind fun t4=>some (decide (t4≤600))else some false)).bind fun o1=>some o1)
def a80:AFn:=⟨10,[(.tmp 2)],
 (.seq (.reg [sq 1 (.box (.t 0)),
sq 2 (.mv (kB false))])
 (.seq (.sem (.reg [sq 3 (.load (some 5) (.t 1)),
sq 4 (.call 110 [(.t 3),(kI 12)]),
sq 5 (.mv (.t 4)),
zg 6 5 true (.load (some 5) (.t 1)),
zg 7 5 true (.call 111 [(.t 6)]),
zg 8 5 true (.bin .leq (.t 7) (kI 600)),
sq 9 (.pick (.t 5) (.t 8) (kB false)),
sq 2 (.mv (.t 9))]))
 .ret))⟩
theorem a80_ok:afn Tryz.prog 80=some a80.er:=by kernel_rfl
theorem F80_ok{x0 r}(h:F80 x0=some r):CallD Tryz.prog 80 [.agg [dI x0.Kind,dI x0.N,dS x0.S,dM (x0.List_.map eTValue),dM (x0.Fields.map eTField)]] [] (tupV [.c (dB r)]) []:=by
 refine callS a80_ok (by simp[a80]) ?_
 rw[F80]at h
 simp only[a80,VW.down,Nat.reduceEqDiff,reduceCtorEq,Nat.reduceAdd,Nat.reduceLeDiff,Nat.reduceLT,Nat.reduceBEq,Nat.reduceSub,EE.down]
 obtain⟨o1,ho,h⟩:=bi h
 refine cutS (fun s=>s=⟨[(2,.one (.c (dB o1)))],[]⟩) ?_ ?_
 ·have h:=ho
  clear ho
  refine ww ?_
  obtain⟨t2,ht2,h⟩:=bi h
  refine cN [] (F110k_ok 1099511627776 ht2) trivial (ww ?_)
  refine guardSBh h (fun g3 h=>?_) (fun g3 h=>?_)
  ·refine ww ?_
   obtain⟨t4,ht4,h⟩:=bi h
   refine cN [] (F111k_ok 1099511627776 ht4) trivial (ww ?_)
   cases h
   exact eM [] rfl
  refine ww ?_
  cases h
  exact eM [] rfl
 rintro _ rfl
 clear ho
 refine ww ?_
 cases h
 exact eF []
def F38(x0:Object):Option (Bool):=(((F79 x0.Meta).bind fun t2=>(if t2=true then(F80 x0.Spec).bind fun t4=>(if t4=true then(F80 x0.Status).bind fun t6=>some t6 else some false)else some false)).bind fun o1=>some o1)
def a38:AFn:=⟨16,[(.tmp 2)],
 (.seq (.reg [sq 1 (.box (.t 0)),
sq 2 (.mv (kB false))])
 (.seq (.sem (.reg [sq 3 (.fieldA 0 (.t 1)),
sq 4 (.load (some 13) (.t 3)),
sq 5 (.call 79 [(.t 4)]),
sq 6 (.mv (.t 5)),
zg 7 6 true (.fieldA 13 (.t 1)),
zg 8 6 true (.load (some 5) (.t 7)),
zg 9 6 true (.call 80 [(.t 8)]),
sq 10 (.pick (.t 6) (.t 9) (kB false)),
sq 11 (.mv (.t 10)),
zg 12 11 true (.fieldA 18 (.t 1)),
zg 13 11 true (.load (some 5) (.t 12)),
zg 14 11 true (.call 80 [(.t 13)]),
sq 15 (.pick (.t 11) (.t 14) (kB false)),
sq 2 (.mv (.t 15))]))
 .ret))⟩
theorem a38_ok:afn Tryz.prog 38=some a38.er:=by kernel_rfl
theorem F38_ok{x0 r}(h:F38 x0=some r):CallD Tryz.prog 38 [.agg [dS x0.Meta.Kind,dS x0.Meta.Namespace,dS x0.Meta.Name,dI x0.Meta.Uid,dI x0.Meta.Version,dI x0.Meta.Generation,dI x0.Meta.Created,dB x0.Meta.Deleting,dI x0.Meta.DeleteAt,dM (x0.Meta.Labels.map eLabel),dM (x0.Meta.Owners.map eOwner),dM (x0.Meta.Finalizers.map eS),dM (x0.Meta.Managers.map eManager),dI x0.Spec.Kind,dI x0.Spec.N,dS x0.Spec.S,dM (x0.Spec.List_.map eTValue),dM (x0.Spec.Fields.map eTField),dI x0.Status.Kind,dI x0.Status.N,dS x0.Status.S,dM (x0.Status.List_.map eTValue),dM (x0.Status.Fields.map eTField)]] [] (tupV [.c (dB r)]) []:=by
 refine callS a38_ok (by simp[a38]) ?_
 rw[F38]at h
 simp only[a38,VW.down,Nat.reduceEqDiff,reduceCtorEq,Nat.reduceAdd,Nat.reduceLeDiff,Nat.reduceLT,Nat.reduceBEq,Nat.reduceSub,EE.down]
 obtain⟨o1,ho,h⟩:=bi h
 refine cutS (fun s=>s=⟨[(2,.one (.c (dB o1)))],[]⟩) ?_ ?_
 ·have h:=ho
  clear ho
  refine ww ?_
  obtain⟨t2,ht2,h⟩:=bi h
  refine cN [] (F79_ok ht2) trivial (ww ?_)
  refine guardSBh h (fun g3 h=>?_) (fun g3 h=>?_)
  ·refine ww ?_
   obtain⟨t4,ht4,h⟩:=bi h
   refine cN [] (F80_ok ht4) trivial (ww ?_)
   refine guardSBh h (fun g5 h=>?_) (fun g5 h=>?_)
   ·refine ww ?_
    obtain⟨t6,ht6,h⟩:=bi h
    refine cN [] (F80_ok ht6) trivial (ww ?_)
    cases h
    exact eM [] rfl
   refine ww ?_
   cases h
   exact eM [] rfl
  refine ww ?_
  cases h
  exact eM [] rfl
 rintro _ rfl
 clear ho
 refine ww ?_
 cases h
 exact eF []
end Go.Proofs.YtbopaemngpbdgaaGreat
