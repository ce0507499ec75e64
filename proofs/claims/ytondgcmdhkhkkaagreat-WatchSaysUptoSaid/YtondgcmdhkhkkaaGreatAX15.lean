/- Each Go function as a function over typed data, and its walk. -/
import Derived.Test.YtondgcmdhkhkkaaGreatAX
import Derived.Test.YtondgcmdhkhkkaaGreatAX8
import Derived.Test.YtondgcmdhkhkkaaGreatAX10
import Derived.Test.YtondgcmdhkhkkaaGreatAX11
import Derived.Test.YtondgcmdhkhkkaaGreatAX12
namespace Go.Proofs.YtondgcmdhkhkkaaGreat
open Go Go.Fw Go.Shelf
set_option maxRecDepth 100000
set_option maxHeartbeats 4000000
set_option linter.unusedSimpArgs false
set_option linter.unusedVariables false
def F115(x0:Object)(x1:ByteArray):Option (Int):=(F24 x0.Meta).bind fun t1=>(F106 t1 x1).bind fun t2=>some t2
def a115:AFn:=⟨10,[(.tmp 4)],
 (.seq (.reg [sq 2 (.box (.t 0)),
sq 4 (.mv (kI 0))])
 (.seq (.reg [sq 5 (.fieldA 0 (.t 2)),
sq 6 (.load (some 13) (.t 5)),
sq 7 (.call 24 [(.t 6)]),
sq 8 (.mv (.t 1)),
sq 9 (.call 106 [(.t 7),(.t 8)]),
sq 4 (.mv (.t 9))])
 .ret))⟩
theorem a115_ok:afn Tryz.prog 115=some a115.er:=by kernel_rfl
theorem F115_ok{x0 x1 r}(h:F115 x0 x1=some r):CallD Tryz.prog 115 [.agg [dS x0.Meta.Kind,dS x0.Meta.Namespace,dS x0.Meta.Name,dI x0.Meta.Uid,dI x0.Meta.Version,dI x0.Meta.Generation,dI x0.Meta.Created,dB x0.Meta.Deleting,dI x0.Meta.DeleteAt,dM (x0.Meta.Labels.map eLabel),dM (x0.Meta.Owners.map eOwner),dM (x0.Meta.Finalizers.map eS),dM (x0.Meta.Managers.map eManager),dI x0.Spec.Kind,dI x0.Spec.N,dS x0.Spec.S,dM (x0.Spec.List_.map eTValue),dM (x0.Spec.Fields.map eTField),dI x0.Status.Kind,dI x0.Status.N,dS x0.Status.S,dM (x0.Status.List_.map eTValue),dM (x0.Status.Fields.map eTField)],.c (dS x1)] [] (tupV [.c (dI r)]) []:=by
 refine callS a115_ok (by simp[a115]) ?_
 rw[F115]at h
 simp only[a115,VW.down,Nat.reduceEqDiff,reduceCtorEq,Nat.reduceAdd,Nat.reduceLeDiff,Nat.reduceLT,Nat.reduceBEq,Nat.reduceSub,EE.down]
 obtain⟨t1,ht1,h⟩:=bi h
 refine cN [] (F24_ok ht1) trivial (ww ?_)
 obtain⟨t2,ht2,h⟩:=bi h
 refine cN [] (F106_ok ht2) trivial (ww ?_)
 cases h
 exact eF []
def F114_l1(x0:(List Object))(x1:ByteArray):Nat→Int→Int→Option (Int)
 |0,_,_=>none
 |k+1,o1_0,o1_1=>(if o1_0<o1_1 then(rdI x0 ((IntKind.i64.wrap ((shrV .u64 ((IntKind.u64.wrap ((IntKind.i64.wrap (o1_0+o1_1))))) 1))))).bind fun y3=>(F115 y3 x1).bind fun t4=>(if t4<0 then F114_l1 x0 x1 k ((IntKind.i64.wrap (((IntKind.i64.wrap ((shrV .u64 ((IntKind.u64.wrap ((IntKind.i64.wrap (o1_0+o1_1))))) 1))))+1))) o1_1 else F114_l1 x0 x1 k o1_0 ((IntKind.i64.wrap ((shrV .u64 ((IntKind.u64.wrap ((IntKind.i64.wrap (o1_0+o1_1))))) 1)))))else some o1_0)
def F114(x0:(List Object))(x1:ByteArray):Option (Int×Bool):=((F114_l1 x0 x1 1099511627776 0 ((x0.length:Int))).bind fun o1=>(((if o1<(x0.length:Int)then(rdI x0 o1).bind fun y8=>(F115 y8 x1).bind fun t9=>some (decide (t9=0))else some false)).bind fun o6=>some ((o1,o6))))
def a114:AFn:=⟨49,[(.tmp 6),(.tmp 7)],
 (.seq (.reg [sq 6 (.mv (kI 0)),
sq 7 (.mv (kB false))])
 (.seq (.reg [sq 12 (.mv (.t 0)),
sq 13 (.len (.t 12)),
sq 8 (.mv (.t 13))])
 (.seq (.reg [sq 14 (.mv (.t 8)),
sq 9 (.mv (kI 0)),
sq 10 (.mv (.t 14))])
 (.seq (.sem (.block 0 (.loop (.seq (.seq (.reg [sq 15 (.mv (.t 9)),
sq 16 (.mv (.t 10)),
sq 17 (.bin .lss (.t 15) (.t 16))])
 (.cond (.t 17)
 .skip
 (.exit 0)))
 (.block 1 (.seq (.reg [sq 18 (.mv (.t 9)),
sq 19 (.mv (.t 10)),
sq 20 (.bin .add (.t 18) (.t 19)),
sq 21 (.conv .u64 (.t 20)),
sq 22 (.bin .shr (.t 21) (.k (.c (.d (.v (.int .u64 1)))))),
sq 23 (.conv .i64 (.t 22)),
sq 11 (.mv (.t 23))])
 (.seq (.reg [sq 24 (.mv (.t 2)),
sq 25 (.mv (.t 0)),
sq 26 (.mv (.t 11)),
sq 27 (.indexA 23 (.t 25) (.t 26)),
sq 28 (.load (some 23) (.t 27)),
sq 29 (.mv (.t 1)),
sq 30 (.callv (.t 24) [(.t 28),(.t 29)]),
sq 31 (.bin .lss (.t 30) (kI 0))])
 (.cond (.t 31)
 (.reg [sq 32 (.mv (.t 11)),
sq 33 (.bin .add (.t 32) (kI 1)),
sq 9 (.mv (.t 33))])
 (.reg [sq 34 (.mv (.t 11)),
sq 10 (.mv (.t 34))])))))))))
 (.seq (.sem (.reg [sq 35 (.mv (.t 9)),
sq 36 (.mv (.t 9)),
sq 37 (.mv (.t 8)),
sq 38 (.bin .lss (.t 36) (.t 37)),
sq 39 (.mv (.t 38)),
zg 40 39 true (.mv (.t 2)),
zg 41 39 true (.mv (.t 0)),
zg 42 39 true (.mv (.t 9)),
zg 43 39 true (.indexA 23 (.t 41) (.t 42)),
zg 44 39 true (.load (some 23) (.t 43)),
zg 45 39 true (.mv (.t 1)),
zg 46 39 true (.callv (.t 40) [(.t 44),(.t 45)]),
zg 47 39 true (.bin .eql (.t 46) (kI 0)),
sq 48 (.pick (.t 39) (.t 47) (kB false)),
sq 6 (.mv (.t 35)),
sq 7 (.mv (.t 48))]))
 .ret)))))⟩
theorem a114_ok:afn Tryz.prog 114=some a114.er:=by kernel_rfl
theorem F114_ok{x0 x1 r}(h:F114 x0 x1=some r):CallD Tryz.prog 114 [.c (dM (x0.map eObject)),.c (dS x1),.c (.fn 115 [])] [] (tupV [.c (dI r.1),.c (dB r.2)]) []:=by
 refine callS a114_ok (by simp[a114]) ?_
 rw[F114]at h
 simp only[a114,VW.down,Nat.reduceEqDiff,reduceCtorEq,Nat.reduceAdd,Nat.reduceLeDiff,Nat.reduceLT,Nat.reduceBEq,Nat.reduceSub,EE.down]
 obtain⟨o1,ho,h⟩:=bi h
 refine cutS (fun s=>s=⟨[(0,.one (.c (dM (x0.map eObject)))),(1,.one (.c (dS x1))),(2,.one (.c (.fn 115 []))),(8,.one (.c (dI ((x0.length:Int))))),(9,.one (.c (dI o1)))],[]⟩) ?_ ?_
 ·have h:=ho
  clear ho
  refine ww ?_
  refine bL (fun j s=>∃(o1_0:Int) (o1_1:Int),s=⟨[(0,.one (.c (dM (x0.map eObject)))),(1,.one (.c (dS x1))),(2,.one (.c (.fn 115 []))),(8,.one (.c (dI ((x0.length:Int))))),(9,.one (.c (dI o1_0))),(10,.one (.c (dI o1_1)))],[]⟩∧F114_l1 x0 x1 j o1_0 o1_1=some o1) 1099511627776 [] ⟨0,(x0.length:Int),rfl,h⟩ ?_
  rintro j _ ⟨o1_0,o1_1,rfl,h⟩
  cases j with
  |zero=>cases(show(none:Option _)=some _ from h)
  |succ j=>
   rw[F114_l1]at h
   refine ww ?_
   refine condSh h (fun c2 h=>?_) (fun c2 h=>?_)
   ·refine ww ?_
    refine⟨by decide,?_⟩
    refine ww ?_
    obtain⟨y3,hy3,h⟩:=bi h
    refine t_idxF (enc:=eObject) (xs:=x0) rfl rfl hy3 rfl (ww ?_)
    obtain⟨t4,ht4,h⟩:=bi h
    refine cN [] (F115_ok ht4) trivial (ww ?_)
    refine condSh h (fun c5 h=>?_) (fun c5 h=>?_)
    ·refine ww ?_
     exact eL' j [] ⟨(IntKind.i64.wrap (((IntKind.i64.wrap ((shrV .u64 ((IntKind.u64.wrap ((IntKind.i64.wrap (o1_0+o1_1))))) 1))))+1)),o1_1,rfl,h⟩ (Nat.lt_succ_self _)
    ·refine ww ?_
     exact eL' j [] ⟨o1_0,(IntKind.i64.wrap ((shrV .u64 ((IntKind.u64.wrap ((IntKind.i64.wrap (o1_0+o1_1))))) 1))),rfl,h⟩ (Nat.lt_succ_self _)
   ·refine ww ?_
    cases h
    exact eM [] rfl
 rintro _ rfl
 clear ho
 refine ww ?_
 obtain⟨o6,ho,h⟩:=bi h
 refine cutS (fun s=>s=⟨[(6,.one (.c (dI o1))),(7,.one (.c (dB o6)))],[]⟩) ?_ ?_
 ·have h:=ho
  clear ho
  refine ww ?_
  refine guardSh h (fun g7 h=>?_) (fun g7 h=>?_)
  ·refine ww ?_
   obtain⟨y8,hy8,h⟩:=bi h
   refine t_idxF (enc:=eObject) (xs:=x0) rfl rfl hy8 rfl (ww ?_)
   obtain⟨t9,ht9,h⟩:=bi h
   refine cN [] (F115_ok ht9) trivial (ww ?_)
   cases h
   exact eM [] rfl
  refine ww ?_
  cases h
  exact eM [] rfl
 rintro _ rfl
 clear ho
 refine ww ?_
 cases h
 exact eF []
def F77_l1(x1:ByteArray):List Object→Nat→(List Object)→Option ((List Object))
 |[],o1_1,o1_0=>some o1_0
 |xo1::xs,o1_1,o1_0=>(((F55 xo1).bind fun t4=>(if¬(t4=x1)then(apI o1_0 ([xo1])).bind fun a6=>some a6 else some o1_0)).bind fun o3=>F77_l1 x1 xs (o1_1+1) o3)
def F77(x0:(List Object))(x1:ByteArray):Option ((List Object)):=(((ck (0≤x0.length∧x0.length≤4294967290)).bind fun u7=>F77_l1 x1 x0 0 ([])).bind fun o1=>some o1)
def a77:AFn:=⟨29,[(.tmp 4)],
 (.seq (.reg [sq 4 (.mv kN)])
 (.seq (.reg [sq 7 (.bslice 23 []),
sq 5 (.mv (.t 7))])
 (.seq (.seq (.reg [sq 6 (.mv (kI 0))])
 (.sem (.block 0 (.loop (.seq (.seq (.reg [sq 8 (.mv (.t 6)),
sq 9 (.mv (.t 0)),
sq 10 (.len (.t 9)),
sq 11 (.bin .lss (.t 8) (.t 10))])
 (.cond (.t 11)
 .skip
 (.exit 0)))
 (.seq (.sem (.block 1 (.seq (.reg [sq 14 (.mv (.t 0)),
sq 15 (.mv (.t 6)),
sq 16 (.indexA 23 (.t 14) (.t 15)),
sq 17 (.load (some 23) (.t 16)),
sq 18 (.call 55 [(.t 17)]),
sq 19 (.mv (.t 1)),
sq 20 (.bin .neq (.t 18) (.t 19))])
 (.cond (.t 20)
 (.reg [sq 21 (.mv (.t 5)),
sq 22 (.mv (.t 0)),
sq 23 (.mv (.t 6)),
sq 24 (.indexA 23 (.t 22) (.t 23)),
sq 25 (.load (some 23) (.t 24)),
sq 26 (.bslice 23 [(.t 25)]),
sq 27 (.app 23 352 (.t 21) (.t 26)),
sq 5 (.mv (.t 27))])
 .skip))))
 (.reg [sq 12 (.mv (.t 6)),
sq 13 (.bin .add (.t 12) (kI 1)),
sq 6 (.mv (.t 13))])))))))
 (.seq (.reg [sq 28 (.mv (.t 5)),
sq 4 (.mv (.t 28))])
 .ret))))⟩
theorem a77_ok:afn Tryz.prog 77=some a77.er:=by kernel_rfl
theorem F77_ok{x0 x1 r}(h:F77 x0 x1=some r):CallD Tryz.prog 77 [.c (dM (x0.map eObject)),.c (dS x1)] [] (tupV [.c (.own 0 0 0 (r.length) none)]) [some (.arr 0 23 (r.map eObject))]:=by
 refine callS a77_ok (by simp[a77]) ?_
 rw[F77]at h
 simp only[a77,VW.down,Nat.reduceEqDiff,reduceCtorEq,Nat.reduceAdd,Nat.reduceLeDiff,Nat.reduceLT,Nat.reduceBEq,Nat.reduceSub,EE.down]
 refine t_bslice (enc:=eObject) (ys:=([]:List Object)) rfl rfl (by simp[A1.cells]) (by first|rfl|(simp only[List.drop_zero,take_mapL];rfl)|(simp only[lit,List.map_cons,List.map_nil,List.drop_zero,take_mapL,EE.down];done)|(simp only[lit,List.map_cons,List.map_nil,List.drop_zero,take_mapL,EE.down];rfl)) (ww ?_)
 obtain⟨o1,ho,h⟩:=bi h
 refine cutS (fun s=>s=⟨[(5,.one (.c (.own 0 0 0 (o1.length) none)))],[some (.arr 0 23 (o1.map eObject))]⟩) ?_ ?_
 ·have h:=ho
  clear ho
  obtain⟨_,hk,h⟩:=bi h
  have hk:=ck_some hk
  refine ww ?_
  refine bL (fun j s=>∃(o1_1:Nat) (o1_0:List Object),(o1_1≤x0.length∧j=x0.length-o1_1)∧s=⟨[(0,.one (.c (dM (x0.map eObject)))),(1,.one (.c (dS x1))),(5,.one (.c (.own 0 0 0 (o1_0.length) none))),(6,.one (.c (dI ((o1_1:Int)))))],[some (.arr 0 23 (o1_0.map eObject))]⟩∧F77_l1 x1 (x0.drop o1_1) o1_1 o1_0=some o1) (x0.length-0) [some 0] ⟨0,[],⟨hk.1,rfl⟩,rfl,h⟩ ?_
  rintro _ _ ⟨o1_1,o1_0,⟨hi,rfl⟩,rfl,h⟩
  refine ww ?_
  refine condS (fun c2=>?_) (fun c2=>?_)
  ·obtain⟨xo1,hxo1,hd⟩:=countY (show(o1_1:Int)<(x0.length:Int)from c2)
   rw[hd,F77_l1]at h
   refine ww ?_
   obtain⟨o3,ho,h⟩:=bi h
   refine cutS (fun s=>s=⟨[(0,.one (.c (dM (x0.map eObject)))),(1,.one (.c (dS x1))),(5,.one (.c (.own 0 0 0 (o3.length) none))),(6,.one (.c (dI ((o1_1:Int)))))],[some (.arr 0 23 (o3.map eObject))]⟩) ?_ ?_
   ·have h:=ho
    clear ho
    refine ww ?_
    refine t_idxF (enc:=eObject) (xs:=x0) rfl rfl hxo1 rfl (ww ?_)
    obtain⟨t4,ht4,h⟩:=bi h
    refine cN [] (F55_ok ht4) trivial (ww ?_)
    refine condSh h (fun c5 h=>?_) (fun c5 h=>?_)
    ·refine ww ?_
     refine t_idxF (enc:=eObject) (xs:=x0) rfl rfl hxo1 rfl (ww ?_)
     refine t_bslice (enc:=eObject) (ys:=[xo1]) rfl rfl (by simp[A1.cells]) (by first|rfl|(simp only[List.drop_zero,take_mapL];rfl)|(simp only[lit,List.map_cons,List.map_nil,List.drop_zero,take_mapL,EE.down];done)|(simp only[lit,List.map_cons,List.map_nil,List.drop_zero,take_mapL,EE.down];rfl)) (ww ?_)
     obtain⟨a6,ha6,h⟩:=bi h
     refine t_app (enc:=eObject) (xs:=o1_0) rfl rfl (by first|rfl|simp only[List.length_set]|exact(clrL_len (slI_len (by assumption))).symm) rfl (rows_full (enc:=eObject) (by first|rfl|simp only[List.length_set]|exact(clrL_len (slI_len (by assumption))).symm) rfl) ha6 (ww ?_)
     cases h
     exact eM [some 0] rfl
    refine ww ?_
    cases h
    exact eM [some 0] rfl
   rintro _ rfl
   clear ho
   refine ww ?_
   rw[wrapN (by omega)]
   exact eL' (x0.length-(o1_1+1)) [some 0] ⟨o1_1+1,o3,⟨by omega,rfl⟩,rfl,h⟩ (by omega)
  rw[countN (show¬((o1_1:Int)<(x0.length:Int))from c2),F77_l1]at h
  refine ww ?_
  cases h
  exact eM [some 0] rfl
 rintro _ rfl
 clear ho
 refine ww ?_
 cases h
 exact eF [some 0]
def F45(x0:Object)(x1:Object):Option (Bool):=(((F80 x0.Meta x1.Meta).bind fun t2=>(if t2=true then(F81 x0.Spec x1.Spec).bind fun t4=>(if t4=true then(F81 x0.Status x1.Status).bind fun t6=>some t6 else some false)else some false)).bind fun o1=>some o1)
def a45:AFn:=⟨24,[(.tmp 4)],
 (.seq (.reg [sq 2 (.box (.t 0)),
sq 3 (.box (.t 1)),
sq 4 (.mv (kB false))])
 (.seq (.sem (.reg [sq 5 (.fieldA 0 (.t 2)),
sq 6 (.load (some 13) (.t 5)),
sq 7 (.fieldA 0 (.t 3)),
sq 8 (.load (some 13) (.t 7)),
sq 9 (.call 80 [(.t 6),(.t 8)]),
sq 10 (.mv (.t 9)),
zg 11 10 true (.fieldA 13 (.t 2)),
zg 12 10 true (.load (some 5) (.t 11)),
zg 13 10 true (.fieldA 13 (.t 3)),
zg 14 10 true (.load (some 5) (.t 13)),
zg 15 10 true (.call 81 [(.t 12),(.t 14)]),
sq 16 (.pick (.t 10) (.t 15) (kB false)),
sq 17 (.mv (.t 16)),
zg 18 17 true (.fieldA 18 (.t 2)),
zg 19 17 true (.load (some 5) (.t 18)),
zg 20 17 true (.fieldA 18 (.t 3)),
zg 21 17 true (.load (some 5) (.t 20)),
zg 22 17 true (.call 81 [(.t 19),(.t 21)]),
sq 23 (.pick (.t 17) (.t 22) (kB false)),
sq 4 (.mv (.t 23))]))
 .ret))⟩
theorem a45_ok:afn Tryz.prog 45=some a45.er:=by kernel_rfl
theorem F45_ok{x0 x1 r}(h:F45 x0 x1=some r):CallD Tryz.prog 45 [.agg [dS x0.Meta.Kind,dS x0.Meta.Namespace,dS x0.Meta.Name,dI x0.Meta.Uid,dI x0.Meta.Version,dI x0.Meta.Generation,dI x0.Meta.Created,dB x0.Meta.Deleting,dI x0.Meta.DeleteAt,dM (x0.Meta.Labels.map eLabel),dM (x0.Meta.Owners.map eOwner),dM (x0.Meta.Finalizers.map eS),dM (x0.Meta.Managers.map eManager),dI x0.Spec.Kind,dI x0.Spec.N,dS x0.Spec.S,dM (x0.Spec.List_.map eTValue),dM (x0.Spec.Fields.map eTField),dI x0.Status.Kind,dI x0.Status.N,dS x0.Status.S,dM (x0.Status.List_.map eTValue),dM (x0.Status.Fields.map eTField)],.agg [dS x1.Meta.Kind,dS x1.Meta.Namespace,dS x1.Meta.Name,dI x1.Meta.Uid,dI x1.Meta.Version,dI x1.Meta.Generation,dI x1.Meta.Created,dB x1.Meta.Deleting,dI x1.Meta.DeleteAt,dM (x1.Meta.Labels.map eLabel),dM (x1.Meta.Owners.map eOwner),dM (x1.Meta.Finalizers.map eS),dM (x1.Meta.Managers.map eManager),dI x1.Spec.Kind,dI x1.Spec.N,dS x1.Spec.S,dM (x1.Spec.List_.map eTValue),dM (x1.Spec.Fields.map eTField),dI x1.Status.Kind,dI x1.Status.N,dS x1.Status.S,dM (x1.Status.List_.map eTValue),dM (x1.Status.Fields.map eTField)]] [] (tupV [.c (dB r)]) []:=by
 refine callS a45_ok (by simp[a45]) ?_
 rw[F45]at h
 simp only[a45,VW.down,Nat.reduceEqDiff,reduceCtorEq,Nat.reduceAdd,Nat.reduceLeDiff,Nat.reduceLT,Nat.reduceBEq,Nat.reduceSub,EE.down]
 obtain⟨o1,ho,h⟩:=bi h
 refine cutS (fun s=>s=⟨[(4,.one (.c (dB o1)))],[]⟩) ?_ ?_
 ·have h:=ho
  clear ho
  refine ww ?_
  obtain⟨t2,ht2,h⟩:=bi h
  refine cN [] (F80_ok ht2) trivial (ww ?_)
  refine guardSBh h (fun g3 h=>?_) (fun g3 h=>?_)
  ·refine ww ?_
   obtain⟨t4,ht4,h⟩:=bi h
   refine cN [] (F81_ok ht4) trivial (ww ?_)
   refine guardSBh h (fun g5 h=>?_) (fun g5 h=>?_)
   ·refine ww ?_
    obtain⟨t6,ht6,h⟩:=bi h
    refine cN [] (F81_ok ht6) trivial (ww ?_)
    cases h
    exact eM [] rfl
   refine ww ?_
   cases h
   exact eM [] rfl
  refine ww ?_
  cases h
  exact eM [] rfl
 rintro _ rfl
 clear ho
 refine ww ?_
 cases h
 exact eF []
def F19_l1(x0:(List Event))(x1:(List Event)):Nat→Int→Option ((Bool) ⊕ (Unit))
 |0,_=>none
 |k+1,o1_0=>(((if o1_0<(x0.length:Int)then some (decide (o1_0<(x1.length:Int)))else some false)).bind fun o2=>(if o2=true then(((rdI x0 o1_0).bind fun y6=>(rdI x1 o1_0).bind fun y7=>(if¬(y6.Type_=y7.Type_)then some true else(if¬(y6.Rev=y7.Rev)then some true else(F45 y6.Object y7.Object).bind fun t10=>some (nb t10)))).bind fun o5=>(if o5=true then(some false).map Sum.inl else F19_l1 x0 x1 k ((IntKind.i64.wrap (o1_0+1)))))else some (Sum.inr (()))))
def F19(x0:(List Event))(x1:(List Event)):Option (Bool):=((F19_l1 x0 x1 1099511627776 0:Option ((Bool) ⊕ (Unit))).bind fun o1=>match o1 with|Sum.inl f=>some f|Sum.inr po1=>some (decide ((x0.length:Int)=(x1.length:Int))))
def a19:AFn:=⟨61,[(.tmp 4)],
 (.seq (.reg [sq 4 (.mv (kB false))])
 (.seq (.seq (.reg [sq 5 (.mv (kI 0))])
 (.sem (.block 0 (.loop (.seq (.seq (.sem (.reg [sq 6 (.mv (.t 5)),
sq 7 (.mv (.t 0)),
sq 8 (.len (.t 7)),
sq 9 (.bin .lss (.t 6) (.t 8)),
sq 10 (.mv (.t 9)),
zg 11 10 true (.mv (.t 5)),
zg 12 10 true (.mv (.t 1)),
zg 13 10 true (.len (.t 12)),
zg 14 10 true (.bin .lss (.t 11) (.t 13)),
zl 15 (.pick (.t 10) (.t 14) (kB false)) [] [7,12]]))
 (.cond (.t 15)
 .skip
 (.exit 0)))
 (.seq (.block 1 (.seq (.sem (.regd [sq 18 (.mv (.t 0)),
sq 19 (.mv (.t 5)),
sd 20 (.indexA 25 (.t 18) (.t 19)) [0,1],
sd 21 (.fieldA 0 (.t 20)) [0,1,2],
sd 22 (.load none (.t 21)) [0,1,2,3],
sq 23 (.mv (.t 1)),
sq 24 (.mv (.t 5)),
sd 25 (.indexA 25 (.t 23) (.t 24)) [5,6],
sd 26 (.fieldA 0 (.t 25)) [5,6,7],
sd 27 (.load none (.t 26)) [5,6,7,8],
sd 28 (.bin .neq (.t 22) (.t 27)) [0,1,2,3,4,5,6,7,8,9],
sd 29 (.mv (.t 28)) [0,1,2,3,4,5,6,7,8,9,10],
⟨(some 30),(some (29,false)),.mv (.t 0),[0,1,2,3,4,5,6,7,8,9,10,11],(.new [])⟩,
⟨(some 31),(some (29,false)),.mv (.t 5),[0,1,2,3,4,5,6,7,8,9,10,11],(.new [])⟩,
⟨(some 32),(some (29,false)),.indexA 25 (.t 30) (.t 31),[0,1,2,3,4,5,6,7,8,9,10,11,12,13],(.new [])⟩,
⟨(some 33),(some (29,false)),.fieldA 1 (.t 32),[0,1,2,3,4,5,6,7,8,9,10,11,12,13,14],(.new [])⟩,
⟨(some 34),(some (29,false)),.load none (.t 33),[0,1,2,3,4,5,6,7,8,9,10,11,12,13,14,15],(.new [])⟩,
⟨(some 35),(some (29,false)),.mv (.t 1),[0,1,2,3,4,5,6,7,8,9,10,11],(.new [])⟩,
⟨(some 36),(some (29,false)),.mv (.t 5),[0,1,2,3,4,5,6,7,8,9,10,11],(.new [])⟩,
⟨(some 37),(some (29,false)),.indexA 25 (.t 35) (.t 36),[0,1,2,3,4,5,6,7,8,9,10,11,17,18],(.new [])⟩,
⟨(some 38),(some (29,false)),.fieldA 1 (.t 37),[0,1,2,3,4,5,6,7,8,9,10,11,17,18,19],(.new [])⟩,
⟨(some 39),(some (29,false)),.load none (.t 38),[0,1,2,3,4,5,6,7,8,9,10,11,17,18,19,20],(.new [])⟩,
⟨(some 40),(some (29,false)),.bin .neq (.t 34) (.t 39),[0,1,2,3,4,5,6,7,8,9,10,11,12,13,14,15,16,17,18,19,20,21],(.new [])⟩,
zl 41 (.pick (.t 29) (kB true) (.t 40)) [0,1,2,3,4,5,6,7,8,9,10,11,12,13,14,15,16,17,18,19,20,21,22] [],
sd 42 (.mv (.t 41)) [0,1,2,3,4,5,6,7,8,9,10,11,12,13,14,15,16,17,18,19,20,21,22,23],
⟨(some 43),(some (42,false)),.mv (.t 0),[0,1,2,3,4,5,6,7,8,9,10,11,12,13,14,15,16,17,18,19,20,21,22,23,24],(.new [])⟩,
⟨(some 44),(some (42,false)),.mv (.t 5),[0,1,2,3,4,5,6,7,8,9,10,11,12,13,14,15,16,17,18,19,20,21,22,23,24],(.new [])⟩,
⟨(some 45),(some (42,false)),.indexA 25 (.t 43) (.t 44),[0,1,2,3,4,5,6,7,8,9,10,11,12,13,14,15,16,17,18,19,20,21,22,23,24,25,26],(.new [])⟩,
⟨(some 46),(some (42,false)),.fieldA 2 (.t 45),[0,1,2,3,4,5,6,7,8,9,10,11,12,13,14,15,16,17,18,19,20,21,22,23,24,25,26,27],(.new [])⟩,
⟨(some 47),(some (42,false)),.load (some 23) (.t 46),[0,1,2,3,4,5,6,7,8,9,10,11,12,13,14,15,16,17,18,19,20,21,22,23,24,25,26,27,28],(.new [])⟩,
⟨(some 48),(some (42,false)),.mv (.t 1),[0,1,2,3,4,5,6,7,8,9,10,11,12,13,14,15,16,17,18,19,20,21,22,23,24],(.new [])⟩,
⟨(some 49),(some (42,false)),.mv (.t 5),[0,1,2,3,4,5,6,7,8,9,10,11,12,13,14,15,16,17,18,19,20,21,22,23,24],(.new [])⟩,
⟨(some 50),(some (42,false)),.indexA 25 (.t 48) (.t 49),[0,1,2,3,4,5,6,7,8,9,10,11,12,13,14,15,16,17,18,19,20,21,22,23,24,30,31],(.new [])⟩,
⟨(some 51),(some (42,false)),.fieldA 2 (.t 50),[0,1,2,3,4,5,6,7,8,9,10,11,12,13,14,15,16,17,18,19,20,21,22,23,24,30,31,32],(.new [])⟩,
⟨(some 52),(some (42,false)),.load (some 23) (.t 51),[0,1,2,3,4,5,6,7,8,9,10,11,12,13,14,15,16,17,18,19,20,21,22,23,24,30,31,32,33],(.new [])⟩,
⟨(some 53),(some (42,false)),.call 45 [(.t 47),(.t 52)],[0,1,2,3,4,5,6,7,8,9,10,11,12,13,14,15,16,17,18,19,20,21,22,23,24,25,26,27,28,29,30,31,32,33,34],(.lone [])⟩,
⟨(some 54),(some (42,false)),.not (.t 53),[0,1,2,3,4,5,6,7,8,9,10,11,12,13,14,15,16,17,18,19,20,21,22,23,24,25,26,27,28,29,30,31,32,33,34,35],(.new [])⟩,
zl 55 (.pick (.t 42) (kB true) (.t 54)) [0,1,2,3,4,5,6,7,8,9,10,11,12,13,14,15,16,17,18,19,20,21,22,23,24,25,26,27,28,29,30,31,32,33,34,35,36] []]))
 (.cond (.t 55)
 (.seq (.reg [sq 4 (.mv (kB false))])
 .ret)
 .skip)))
 (.reg [sq 16 (.mv (.t 5)),
sq 17 (.bin .add (.t 16) (kI 1)),
sq 5 (.mv (.t 17))])))))))
 (.seq (.reg [sq 56 (.mv (.t 0)),
sq 57 (.len (.t 56)),
sq 58 (.mv (.t 1)),
sq 59 (.len (.t 58)),
sq 60 (.bin .eql (.t 57) (.t 59)),
sq 4 (.mv (.t 60))])
 .ret)))⟩
theorem a19_ok:afn Tryz.prog 19=some a19.er:=by kernel_rfl
theorem F19_ok{x0 x1 r}(h:F19 x0 x1=some r):CallD Tryz.prog 19 [.c (dM (x0.map eEvent)),.c (dM (x1.map eEvent))] [] (tupV [.c (dB r)]) []:=by
 refine callS a19_ok (by simp[a19]) ?_
 rw[F19]at h
 simp only[a19,VW.down,Nat.reduceEqDiff,reduceCtorEq,Nat.reduceAdd,Nat.reduceLeDiff,Nat.reduceLT,Nat.reduceBEq,Nat.reduceSub,EE.down]
 obtain⟨o1,ho,h⟩:=bi h
 refine cutS (fun s=>∃po1,o1=Sum.inr po1∧s=⟨[(0,.one (.c (dM (x0.map eEvent)))),(1,.one (.c (dM (x1.map eEvent))))],[]⟩) ?_ ?_
 ·have h0o1:=h
  have h:=ho
  clear ho
  refine ww ?_
  refine bL (fun j s=>∃(o1_0:Int),s=⟨[(0,.one (.c (dM (x0.map eEvent)))),(1,.one (.c (dM (x1.map eEvent)))),(5,.one (.c (dI o1_0)))],[]⟩∧F19_l1 x0 x1 j o1_0=some o1) 1099511627776 [] ⟨0,rfl,h⟩ ?_
  rintro j _ ⟨o1_0,rfl,h⟩
  cases j with
  |zero=>cases(show(none:Option _)=some _ from h)
  |succ j=>
   rw[F19_l1]at h
   refine ww ?_
   obtain⟨o2,ho,h⟩:=bi h
   refine cutS (fun s=>s=⟨[(0,.one (.c (dM (x0.map eEvent)))),(1,.one (.c (dM (x1.map eEvent)))),(5,.one (.c (dI o1_0))),(15,.one (.c (dB o2)))],[]⟩) ?_ ?_
   ·have h:=ho
    clear ho
    refine ww ?_
    refine guardSh h (fun g3 h=>?_) (fun g3 h=>?_)
    ·refine ww ?_
     cases h
     exact eM [] rfl
    ·refine ww ?_
     cases h
     exact eM [] rfl
   ·rintro _ rfl
    clear ho
    refine ww ?_
    refine condBh h (fun c4 h=>?_) (fun c4 h=>?_)
    ·refine ww ?_
     obtain⟨o5,ho,h⟩:=bi h
     refine cutS (fun s=>s=⟨[(0,.one (.c (dM (x0.map eEvent)))),(1,.one (.c (dM (x1.map eEvent)))),(5,.one (.c (dI o1_0))),(55,.one (.c (dB o5)))],[]⟩) ?_ ?_
     ·have h:=ho
      clear ho
      refine ww ?_
      obtain⟨y6,hy6,h⟩:=bi h
      refine t_idxF (enc:=eEvent) (xs:=x0) rfl rfl hy6 rfl (ww ?_)
      obtain⟨y7,hy7,h⟩:=bi h
      refine t_idxF (enc:=eEvent) (xs:=x1) rfl rfl hy7 rfl (ww ?_)
      refine guardDh h (fun g8 h=>?_) (fun g8 h=>?_)
      ·refine ww ?_
       cases h
       exact eM [] rfl
      ·refine ww ?_
       refine t_idxF (enc:=eEvent) (xs:=x0) rfl rfl hy6 rfl (ww ?_)
       refine t_idxF (enc:=eEvent) (xs:=x1) rfl rfl hy7 rfl (ww ?_)
       refine guardDh h (fun g9 h=>?_) (fun g9 h=>?_)
       ·refine ww ?_
        cases h
        exact eM [] rfl
       ·refine ww ?_
        refine t_idxF (enc:=eEvent) (xs:=x0) rfl rfl hy6 rfl (ww ?_)
        refine t_idxF (enc:=eEvent) (xs:=x1) rfl rfl hy7 rfl (ww ?_)
        obtain⟨t10,ht10,h⟩:=bi h
        refine cN [] (F45_ok ht10) trivial (ww ?_)
        cases h
        exact eM [] rfl
     ·rintro _ rfl
      clear ho
      refine ww ?_
      refine condBh h (fun c11 h=>?_) (fun c11 h=>?_)
      ·refine ww ?_
       obtain⟨fh0o1,hfh0o1,rfl⟩:=Option.map_eq_some_iff.1 h
       have h:=hfh0o1.trans h0o1
       cases h
       exact eF []
      ·refine ww ?_
       exact eL' j [] ⟨(IntKind.i64.wrap (o1_0+1)),rfl,h⟩ (Nat.lt_succ_self _)
    ·refine ww ?_
     cases h
     exact eM [] ⟨_,rfl,rfl⟩
 rintro _ ⟨po1,rfl,rfl⟩
 clear ho
 dsimp only at h
 refine ww ?_
 cases h
 exact eF []
end Go.Proofs.YtondgcmdhkhkkaaGreat
