/- Each Go function as a function over typed data, and its walk. -/
import Derived.Test.YtondgcmdhkhkkaaGreatW0
import Derived.Test.YtondgcmdhkhkkaaGreatW1
import Derived.Test.YtondgcmdhkhkkaaGreatW5
import Derived.Test.YtondgcmdhkhkkaaGreatW6
import Derived.Test.YtondgcmdhkhkkaaGreatW7
import Derived.Test.YtondgcmdhkhkkaaGreatW11
import Derived.Test.YtondgcmdhkhkkaaGreatW12
import Derived.Test.YtondgcmdhkhkkaaGreatW15
import Derived.Test.YtondgcmdhkhkkaaGreatW16
namespace Go.Proofs.YtondgcmdhkhkkaaGreat
open Go Go.Fw Go.Shelf
set_option maxRecDepth 100000
set_option maxHeartbeats 4000000
set_option linter.unusedSimpArgs false
set_option linter.unusedVariables false
def F22_l1(x0:Filter):List Object→Nat→(List Object)→Option ((List Object))
 |[],o1_1,o1_0=>some o1_0
 |xo1::xs,o1_1,o1_0=>(((F16 x0 xo1).bind fun t4=>(if t4=true then(apI o1_0 ([xo1])).bind fun a6=>some a6 else some o1_0)).bind fun o3=>F22_l1 x0 xs (o1_1+1) o3)
def F22(x0:Filter)(x1:(List Object)):Option ((List Object)):=(((ck (0≤x1.length∧x1.length≤4294967290)).bind fun u7=>F22_l1 x0 x1 0 ([])).bind fun o1=>some o1)
def a22:AFn:=⟨28,[(.tmp 4)],
 (.seq (.reg [sq 2 (.box (.t 0)),
sq 4 (.mv kN)])
 (.seq (.reg [sq 7 (.bslice 23 []),
sq 5 (.mv (.t 7))])
 (.seq (.seq (.reg [sq 6 (.mv (kI 0))])
 (.sem (.block 0 (.loop (.seq (.seq (.reg [sq 8 (.mv (.t 6)),
sq 9 (.mv (.t 1)),
sq 10 (.len (.t 9)),
sq 11 (.bin .lss (.t 8) (.t 10))])
 (.cond (.t 11)
 .skip
 (.exit 0)))
 (.seq (.sem (.block 1 (.seq (.regd [sq 14 (.load (some 3) (.t 2)),
sq 15 (.mv (.t 1)),
sq 16 (.mv (.t 6)),
sd 17 (.indexA 23 (.t 15) (.t 16)) [1,2],
sd 18 (.load (some 23) (.t 17)) [1,2,3],
zl 19 (.call 16 [(.t 14),(.t 18)]) [0,1,2,3,4] []])
 (.cond (.t 19)
 (.reg [sq 20 (.mv (.t 5)),
sq 21 (.mv (.t 1)),
sq 22 (.mv (.t 6)),
sq 23 (.indexA 23 (.t 21) (.t 22)),
sq 24 (.load (some 23) (.t 23)),
sq 25 (.bslice 23 [(.t 24)]),
sq 26 (.app 23 352 (.t 20) (.t 25)),
sq 5 (.mv (.t 26))])
 .skip))))
 (.reg [sq 12 (.mv (.t 6)),
sq 13 (.bin .add (.t 12) (kI 1)),
sq 6 (.mv (.t 13))])))))))
 (.seq (.reg [sq 27 (.mv (.t 5)),
sq 4 (.mv (.t 27))])
 .ret))))⟩
theorem a22_ok:afn Tryz.prog 22=some a22.er:=by kernel_rfl
theorem F22_ok{x0 x1 r}(h:F22 x0 x1=some r):CallD Tryz.prog 22 [.agg [dS x0.Kind,dS x0.Namespace,dM (x0.Selector.map eRequirement)],.c (dM (x1.map eObject))] [] (tupV [.c (.own 0 0 0 (r.length) none)]) [some (.arr 0 23 (r.map eObject))]:=by
 refine callS a22_ok (by simp[a22]) ?_
 rw[F22]at h
 simp only[a22,VW.down,Nat.reduceEqDiff,reduceCtorEq,Nat.reduceAdd,Nat.reduceLeDiff,Nat.reduceLT,Nat.reduceBEq,Nat.reduceSub,EE.down]
 refine t_bslice (enc:=eObject) (ys:=([]:List Object)) rfl rfl (by simp[A1.cells]) (by first|rfl|(simp only[List.drop_zero,take_mapL];rfl)|(simp only[lit,List.map_cons,List.map_nil,List.drop_zero,take_mapL,EE.down];done)|(simp only[lit,List.map_cons,List.map_nil,List.drop_zero,take_mapL,EE.down];rfl)) (ww ?_)
 obtain⟨o1,ho,h⟩:=bi h
 refine cutS (fun s=>s=⟨[(5,.one (.c (.own 0 0 0 (o1.length) none)))],[some (.arr 0 23 (o1.map eObject))]⟩) ?_ ?_
 ·have h:=ho
  clear ho
  obtain⟨_,hk,h⟩:=bi h
  have hk:=ck_some hk
  refine ww ?_
  refine bL (fun j s=>∃(o1_1:Nat) (o1_0:List Object),(o1_1≤x1.length∧j=x1.length-o1_1)∧s=⟨[(1,.one (.c (dM (x1.map eObject)))),(2,.one (.c (.pt 0 0))),(5,.one (.c (.own 1 0 0 (o1_0.length) none))),(6,.one (.c (dI ((o1_1:Int)))))],[some (.box [dS x0.Kind,dS x0.Namespace,dM (x0.Selector.map eRequirement)]),some (.arr 0 23 (o1_0.map eObject))]⟩∧F22_l1 x0 (x1.drop o1_1) o1_1 o1_0=some o1) (x1.length-0) [some 0,some 1] ⟨0,[],⟨hk.1,rfl⟩,rfl,h⟩ ?_
  rintro _ _ ⟨o1_1,o1_0,⟨hi,rfl⟩,rfl,h⟩
  refine ww ?_
  refine condS (fun c2=>?_) (fun c2=>?_)
  ·obtain⟨xo1,hxo1,hd⟩:=countY (show(o1_1:Int)<(x1.length:Int)from c2)
   rw[hd,F22_l1]at h
   refine ww ?_
   obtain⟨o3,ho,h⟩:=bi h
   refine cutS (fun s=>s=⟨[(1,.one (.c (dM (x1.map eObject)))),(2,.one (.c (.pt 0 0))),(5,.one (.c (.own 1 0 0 (o3.length) none))),(6,.one (.c (dI ((o1_1:Int)))))],[some (.box [dS x0.Kind,dS x0.Namespace,dM (x0.Selector.map eRequirement)]),some (.arr 0 23 (o3.map eObject))]⟩) ?_ ?_
   ·have h:=ho
    clear ho
    refine ww ?_
    refine t_idxF (enc:=eObject) (xs:=x1) rfl rfl hxo1 rfl (ww ?_)
    obtain⟨t4,ht4,h⟩:=bi h
    refine cN [] (F16_ok ht4) trivial (ww ?_)
    refine condBh h (fun c5 h=>?_) (fun c5 h=>?_)
    ·refine ww ?_
     refine t_idxF (enc:=eObject) (xs:=x1) rfl rfl hxo1 rfl (ww ?_)
     refine t_bslice (enc:=eObject) (ys:=[xo1]) rfl rfl (by simp[A1.cells]) (by first|rfl|(simp only[List.drop_zero,take_mapL];rfl)|(simp only[lit,List.map_cons,List.map_nil,List.drop_zero,take_mapL,EE.down];done)|(simp only[lit,List.map_cons,List.map_nil,List.drop_zero,take_mapL,EE.down];rfl)) (ww ?_)
     obtain⟨a6,ha6,h⟩:=bi h
     refine t_app (enc:=eObject) (xs:=o1_0) rfl rfl (by first|rfl|simp only[List.length_set]|exact(clrL_len (slI_len (by assumption))).symm) rfl (rows_full (enc:=eObject) (by first|rfl|simp only[List.length_set]|exact(clrL_len (slI_len (by assumption))).symm) rfl) ha6 (ww ?_)
     cases h
     exact eM [some 0,some 1] rfl
    refine ww ?_
    cases h
    exact eM [some 0,some 1] rfl
   rintro _ rfl
   clear ho
   refine ww ?_
   rw[wrapN (by omega)]
   exact eL' (x1.length-(o1_1+1)) [some 0,some 1] ⟨o1_1+1,o3,⟨by omega,rfl⟩,rfl,h⟩ (by omega)
  rw[countN (show¬((o1_1:Int)<(x1.length:Int))from c2),F22_l1]at h
  refine ww ?_
  cases h
  exact eM [some 1] rfl
 rintro _ rfl
 clear ho
 refine ww ?_
 cases h
 exact eF [some 0]
def F25_l2(t1:ByteArray)(x1:Event):List Object→Nat→(List Object)→Bool→Option ((List Object)×Bool)
 |[],o2_2,o2_0,o2_1=>some ((o2_0,o2_1))
 |xo2::xs,o2_2,o2_0,o2_1=>(((F24 xo2.Meta).bind fun t5=>(((((if(nb o2_1)=true then some (nb (Op.bytesLess t5.toList t1.toList||decide (t5=t1)))else some false)).bind fun o7=>(if o7=true then(apI o2_0 ([x1.Object])).bind fun a10=>some ((a10,true))else some ((o2_0,o2_1))))).bind fun o6=>(if¬(t5=t1)then(apI o6.1 ([xo2])).bind fun a12=>some ((a12,o6.2))else some ((o6.1,o6.2))))).bind fun o4=>F25_l2 t1 x1 xs (o2_2+1) o4.1 o4.2)
def F25(x0:(List Object))(x1:Event):Option ((List Object)):=(F24 x1.Object.Meta).bind fun t1=>(((ck (0≤x0.length∧x0.length≤4294967290)).bind fun u13=>F25_l2 t1 x1 x0 0 ([]) (decide (x1.Type_=3))).bind fun o2=>(if(nb o2.2)=true then(apI o2.1 ([x1.Object])).bind fun a15=>some a15 else some o2.1))
def a25:AFn:=⟨60,[(.tmp 4)],
 (.seq (.reg [sq 3 (.box (.t 1)),
sq 4 (.mv kN)])
 (.seq (.reg [sq 10 (.bslice 23 []),
sq 5 (.mv (.t 10))])
 (.seq (.reg [sq 11 (.fieldA 2 (.t 3)),
sq 12 (.fieldA 0 (.t 11)),
sq 13 (.load (some 13) (.t 12)),
sq 14 (.call 24 [(.t 13)]),
sq 6 (.mv (.t 14))])
 (.seq (.reg [sq 15 (.fieldA 0 (.t 3)),
sq 16 (.load none (.t 15)),
sq 17 (.bin .eql (.t 16) (kI 3)),
sq 7 (.mv (.t 17))])
 (.seq (.seq (.reg [sq 8 (.mv (kI 0))])
 (.sem (.block 0 (.loop (.seq (.seq (.reg [sq 18 (.mv (.t 8)),
sq 19 (.mv (.t 0)),
sq 20 (.len (.t 19)),
sq 21 (.bin .lss (.t 18) (.t 20))])
 (.cond (.t 21)
 .skip
 (.exit 0)))
 (.seq (.sem (.block 1 (.seq (.reg [sq 24 (.mv (.t 0)),
sq 25 (.mv (.t 8)),
sq 26 (.indexA 23 (.t 24) (.t 25)),
sq 27 (.fieldA 0 (.t 26)),
sq 28 (.load (some 13) (.t 27)),
sq 29 (.call 24 [(.t 28)]),
sq 9 (.mv (.t 29))])
 (.seq (.sem (.seq (.sem (.reg [sq 30 (.mv (.t 7)),
sq 31 (.not (.t 30)),
sq 32 (.mv (.t 31)),
zg 33 32 true (.mv (.t 9)),
zg 34 32 true (.mv (.t 6)),
zg 35 32 true (.bin .gtr (.t 33) (.t 34)),
zl 36 (.pick (.t 32) (.t 35) (kB false)) [] []]))
 (.cond (.t 36)
 (.seq (.reg [sq 37 (.mv (.t 5)),
sq 38 (.fieldA 2 (.t 3)),
sq 39 (.load (some 23) (.t 38)),
sq 40 (.bslice 23 [(.t 39)]),
sq 41 (.app 23 352 (.t 37) (.t 40)),
sq 5 (.mv (.t 41))])
 (.reg [sq 7 (.mv (kB true))]))
 .skip)))
 (.seq (.reg [sq 42 (.mv (.t 9)),
sq 43 (.mv (.t 6)),
sq 44 (.bin .neq (.t 42) (.t 43))])
 (.cond (.t 44)
 (.reg [sq 45 (.mv (.t 5)),
sq 46 (.mv (.t 0)),
sq 47 (.mv (.t 8)),
sq 48 (.indexA 23 (.t 46) (.t 47)),
sq 49 (.load (some 23) (.t 48)),
sq 50 (.bslice 23 [(.t 49)]),
sq 51 (.app 23 352 (.t 45) (.t 50)),
sq 5 (.mv (.t 51))])
 .skip))))))
 (.reg [sq 22 (.mv (.t 8)),
sq 23 (.bin .add (.t 22) (kI 1)),
sq 8 (.mv (.t 23))])))))))
 (.seq (.seq (.reg [sq 52 (.mv (.t 7)),
sq 53 (.not (.t 52))])
 (.cond (.t 53)
 (.reg [sq 54 (.mv (.t 5)),
sq 55 (.fieldA 2 (.t 3)),
sq 56 (.load (some 23) (.t 55)),
sq 57 (.bslice 23 [(.t 56)]),
sq 58 (.app 23 352 (.t 54) (.t 57)),
sq 5 (.mv (.t 58))])
 .skip))
 (.seq (.reg [sq 59 (.mv (.t 5)),
sq 4 (.mv (.t 59))])
 .ret)))))))⟩
theorem a25_ok:afn Tryz.prog 25=some a25.er:=by kernel_rfl
theorem F25_ok{x0 x1 r}(h:F25 x0 x1=some r):CallD Tryz.prog 25 [.c (dM (x0.map eObject)),.agg [dI x1.Type_,dI x1.Rev,dS x1.Object.Meta.Kind,dS x1.Object.Meta.Namespace,dS x1.Object.Meta.Name,dI x1.Object.Meta.Uid,dI x1.Object.Meta.Version,dI x1.Object.Meta.Generation,dI x1.Object.Meta.Created,dB x1.Object.Meta.Deleting,dI x1.Object.Meta.DeleteAt,dM (x1.Object.Meta.Labels.map eLabel),dM (x1.Object.Meta.Owners.map eOwner),dM (x1.Object.Meta.Finalizers.map eS),dM (x1.Object.Meta.Managers.map eManager),dI x1.Object.Spec.Kind,dI x1.Object.Spec.N,dS x1.Object.Spec.S,dM (x1.Object.Spec.List_.map eTValue),dM (x1.Object.Spec.Fields.map eTField),dI x1.Object.Status.Kind,dI x1.Object.Status.N,dS x1.Object.Status.S,dM (x1.Object.Status.List_.map eTValue),dM (x1.Object.Status.Fields.map eTField)]] [] (tupV [.c (.own 0 0 0 (r.length) none)]) [some (.arr 0 23 (r.map eObject))]:=by
 refine callS a25_ok (by simp[a25]) ?_
 rw[F25]at h
 simp only[a25,VW.down,Nat.reduceEqDiff,reduceCtorEq,Nat.reduceAdd,Nat.reduceLeDiff,Nat.reduceLT,Nat.reduceBEq,Nat.reduceSub,EE.down]
 refine t_bslice (enc:=eObject) (ys:=([]:List Object)) rfl rfl (by simp[A1.cells]) (by first|rfl|(simp only[List.drop_zero,take_mapL];rfl)|(simp only[lit,List.map_cons,List.map_nil,List.drop_zero,take_mapL,EE.down];done)|(simp only[lit,List.map_cons,List.map_nil,List.drop_zero,take_mapL,EE.down];rfl)) (ww ?_)
 obtain⟨t1,ht1,h⟩:=bi h
 refine cN [] (F24_ok ht1) trivial (ww ?_)
 obtain⟨o2,ho,h⟩:=bi h
 refine cutS (fun s=>s=⟨[(3,.one (.c (.pt 0 0))),(5,.one (.c (.own 1 0 0 (o2.1.length) none))),(7,.one (.c (dB o2.2)))],[some (.box [dI x1.Type_,dI x1.Rev,dS x1.Object.Meta.Kind,dS x1.Object.Meta.Namespace,dS x1.Object.Meta.Name,dI x1.Object.Meta.Uid,dI x1.Object.Meta.Version,dI x1.Object.Meta.Generation,dI x1.Object.Meta.Created,dB x1.Object.Meta.Deleting,dI x1.Object.Meta.DeleteAt,dM (x1.Object.Meta.Labels.map eLabel),dM (x1.Object.Meta.Owners.map eOwner),dM (x1.Object.Meta.Finalizers.map eS),dM (x1.Object.Meta.Managers.map eManager),dI x1.Object.Spec.Kind,dI x1.Object.Spec.N,dS x1.Object.Spec.S,dM (x1.Object.Spec.List_.map eTValue),dM (x1.Object.Spec.Fields.map eTField),dI x1.Object.Status.Kind,dI x1.Object.Status.N,dS x1.Object.Status.S,dM (x1.Object.Status.List_.map eTValue),dM (x1.Object.Status.Fields.map eTField)]),some (.arr 0 23 (o2.1.map eObject))]⟩) ?_ ?_
 ·have h:=ho
  clear ho
  obtain⟨_,hk,h⟩:=bi h
  have hk:=ck_some hk
  refine ww ?_
  refine bL (fun j s=>∃(o2_2:Nat) (o2_0:List Object) (o2_1:Bool),(o2_2≤x0.length∧j=x0.length-o2_2)∧s=⟨[(0,.one (.c (dM (x0.map eObject)))),(3,.one (.c (.pt 0 0))),(5,.one (.c (.own 1 0 0 (o2_0.length) none))),(6,.one (.c (dS t1))),(7,.one (.c (dB o2_1))),(8,.one (.c (dI ((o2_2:Int)))))],[some (.box [dI x1.Type_,dI x1.Rev,dS x1.Object.Meta.Kind,dS x1.Object.Meta.Namespace,dS x1.Object.Meta.Name,dI x1.Object.Meta.Uid,dI x1.Object.Meta.Version,dI x1.Object.Meta.Generation,dI x1.Object.Meta.Created,dB x1.Object.Meta.Deleting,dI x1.Object.Meta.DeleteAt,dM (x1.Object.Meta.Labels.map eLabel),dM (x1.Object.Meta.Owners.map eOwner),dM (x1.Object.Meta.Finalizers.map eS),dM (x1.Object.Meta.Managers.map eManager),dI x1.Object.Spec.Kind,dI x1.Object.Spec.N,dS x1.Object.Spec.S,dM (x1.Object.Spec.List_.map eTValue),dM (x1.Object.Spec.Fields.map eTField),dI x1.Object.Status.Kind,dI x1.Object.Status.N,dS x1.Object.Status.S,dM (x1.Object.Status.List_.map eTValue),dM (x1.Object.Status.Fields.map eTField)]),some (.arr 0 23 (o2_0.map eObject))]⟩∧F25_l2 t1 x1 (x0.drop o2_2) o2_2 o2_0 o2_1=some o2) (x0.length-0) [some 0,some 1] ⟨0,[],decide (x1.Type_=3),⟨hk.1,rfl⟩,rfl,h⟩ ?_
  rintro _ _ ⟨o2_2,o2_0,o2_1,⟨hi,rfl⟩,rfl,h⟩
  refine ww ?_
  refine condS (fun c3=>?_) (fun c3=>?_)
  ·obtain⟨xo2,hxo2,hd⟩:=countY (show(o2_2:Int)<(x0.length:Int)from c3)
   rw[hd,F25_l2]at h
   refine ww ?_
   obtain⟨o4,ho,h⟩:=bi h
   refine cutS (fun s=>s=⟨[(0,.one (.c (dM (x0.map eObject)))),(3,.one (.c (.pt 0 0))),(5,.one (.c (.own 1 0 0 (o4.1.length) none))),(6,.one (.c (dS t1))),(7,.one (.c (dB o4.2))),(8,.one (.c (dI ((o2_2:Int)))))],[some (.box [dI x1.Type_,dI x1.Rev,dS x1.Object.Meta.Kind,dS x1.Object.Meta.Namespace,dS x1.Object.Meta.Name,dI x1.Object.Meta.Uid,dI x1.Object.Meta.Version,dI x1.Object.Meta.Generation,dI x1.Object.Meta.Created,dB x1.Object.Meta.Deleting,dI x1.Object.Meta.DeleteAt,dM (x1.Object.Meta.Labels.map eLabel),dM (x1.Object.Meta.Owners.map eOwner),dM (x1.Object.Meta.Finalizers.map eS),dM (x1.Object.Meta.Managers.map eManager),dI x1.Object.Spec.Kind,dI x1.Object.Spec.N,dS x1.Object.Spec.S,dM (x1.Object.Spec.List_.map eTValue),dM (x1.Object.Spec.Fields.map eTField),dI x1.Object.Status.Kind,dI x1.Object.Status.N,dS x1.Object.Status.S,dM (x1.Object.Status.List_.map eTValue),dM (x1.Object.Status.Fields.map eTField)]),some (.arr 0 23 (o4.1.map eObject))]⟩) ?_ ?_
   ·have h:=ho
    clear ho
    refine ww ?_
    refine t_idxF (enc:=eObject) (xs:=x0) rfl rfl hxo2 rfl (ww ?_)
    obtain⟨t5,ht5,h⟩:=bi h
    refine cN [] (F24_ok ht5) trivial (ww ?_)
    obtain⟨o6,ho,h⟩:=bi h
    refine cutS (fun s=>s=⟨[(0,.one (.c (dM (x0.map eObject)))),(3,.one (.c (.pt 0 0))),(5,.one (.c (.own 1 0 0 (o6.1.length) none))),(6,.one (.c (dS t1))),(7,.one (.c (dB o6.2))),(8,.one (.c (dI ((o2_2:Int))))),(9,.one (.c (dS t5)))],[some (.box [dI x1.Type_,dI x1.Rev,dS x1.Object.Meta.Kind,dS x1.Object.Meta.Namespace,dS x1.Object.Meta.Name,dI x1.Object.Meta.Uid,dI x1.Object.Meta.Version,dI x1.Object.Meta.Generation,dI x1.Object.Meta.Created,dB x1.Object.Meta.Deleting,dI x1.Object.Meta.DeleteAt,dM (x1.Object.Meta.Labels.map eLabel),dM (x1.Object.Meta.Owners.map eOwner),dM (x1.Object.Meta.Finalizers.map eS),dM (x1.Object.Meta.Managers.map eManager),dI x1.Object.Spec.Kind,dI x1.Object.Spec.N,dS x1.Object.Spec.S,dM (x1.Object.Spec.List_.map eTValue),dM (x1.Object.Spec.Fields.map eTField),dI x1.Object.Status.Kind,dI x1.Object.Status.N,dS x1.Object.Status.S,dM (x1.Object.Status.List_.map eTValue),dM (x1.Object.Status.Fields.map eTField)]),some (.arr 0 23 (o6.1.map eObject))]⟩) ?_ ?_
    ·have h:=ho
     clear ho
     refine ww ?_
     obtain⟨o7,ho,h⟩:=bi h
     refine cutS (fun s=>s=⟨[(0,.one (.c (dM (x0.map eObject)))),(3,.one (.c (.pt 0 0))),(5,.one (.c (.own 1 0 0 (o2_0.length) none))),(6,.one (.c (dS t1))),(7,.one (.c (dB o2_1))),(8,.one (.c (dI ((o2_2:Int))))),(9,.one (.c (dS t5))),(36,.one (.c (dB o7)))],[some (.box [dI x1.Type_,dI x1.Rev,dS x1.Object.Meta.Kind,dS x1.Object.Meta.Namespace,dS x1.Object.Meta.Name,dI x1.Object.Meta.Uid,dI x1.Object.Meta.Version,dI x1.Object.Meta.Generation,dI x1.Object.Meta.Created,dB x1.Object.Meta.Deleting,dI x1.Object.Meta.DeleteAt,dM (x1.Object.Meta.Labels.map eLabel),dM (x1.Object.Meta.Owners.map eOwner),dM (x1.Object.Meta.Finalizers.map eS),dM (x1.Object.Meta.Managers.map eManager),dI x1.Object.Spec.Kind,dI x1.Object.Spec.N,dS x1.Object.Spec.S,dM (x1.Object.Spec.List_.map eTValue),dM (x1.Object.Spec.Fields.map eTField),dI x1.Object.Status.Kind,dI x1.Object.Status.N,dS x1.Object.Status.S,dM (x1.Object.Status.List_.map eTValue),dM (x1.Object.Status.Fields.map eTField)]),some (.arr 0 23 (o2_0.map eObject))]⟩) ?_ ?_
     ·have h:=ho
      clear ho
      refine ww ?_
      refine guardSBh h (fun g8 h=>?_) (fun g8 h=>?_)
      ·refine ww ?_
       cases h
       exact eM [some 0,some 1] rfl
      refine ww ?_
      cases h
      exact eM [some 0,some 1] rfl
     rintro _ rfl
     clear ho
     refine ww ?_
     refine condBh h (fun c9 h=>?_) (fun c9 h=>?_)
     ·refine ww ?_
      refine t_bslice (enc:=eObject) (ys:=[x1.Object]) rfl rfl (by simp[A1.cells]) (by first|rfl|(simp only[List.drop_zero,take_mapL];rfl)|(simp only[lit,List.map_cons,List.map_nil,List.drop_zero,take_mapL,EE.down];done)|(simp only[lit,List.map_cons,List.map_nil,List.drop_zero,take_mapL,EE.down];rfl)) (ww ?_)
      obtain⟨a10,ha10,h⟩:=bi h
      refine t_app (enc:=eObject) (xs:=o2_0) rfl rfl (by first|rfl|simp only[List.length_set]|exact(clrL_len (slI_len (by assumption))).symm) rfl (rows_full (enc:=eObject) (by first|rfl|simp only[List.length_set]|exact(clrL_len (slI_len (by assumption))).symm) rfl) ha10 (ww ?_)
      cases h
      exact eM [some 0,some 1] rfl
     refine ww ?_
     cases h
     exact eM [some 0,some 1] rfl
    rintro _ rfl
    clear ho
    refine ww ?_
    refine condSh h (fun c11 h=>?_) (fun c11 h=>?_)
    ·refine ww ?_
     refine t_idxF (enc:=eObject) (xs:=x0) rfl rfl hxo2 rfl (ww ?_)
     refine t_bslice (enc:=eObject) (ys:=[xo2]) rfl rfl (by simp[A1.cells]) (by first|rfl|(simp only[List.drop_zero,take_mapL];rfl)|(simp only[lit,List.map_cons,List.map_nil,List.drop_zero,take_mapL,EE.down];done)|(simp only[lit,List.map_cons,List.map_nil,List.drop_zero,take_mapL,EE.down];rfl)) (ww ?_)
     obtain⟨a12,ha12,h⟩:=bi h
     refine t_app (enc:=eObject) (xs:=o6.1) rfl rfl (by first|rfl|simp only[List.length_set]|exact(clrL_len (slI_len (by assumption))).symm) rfl (rows_full (enc:=eObject) (by first|rfl|simp only[List.length_set]|exact(clrL_len (slI_len (by assumption))).symm) rfl) ha12 (ww ?_)
     cases h
     exact eM [some 0,some 1] rfl
    refine ww ?_
    cases h
    exact eM [some 0,some 1] rfl
   rintro _ rfl
   clear ho
   refine ww ?_
   rw[wrapN (by omega)]
   exact eL' (x0.length-(o2_2+1)) [some 0,some 1] ⟨o2_2+1,o4.1,o4.2,⟨by omega,rfl⟩,rfl,h⟩ (by omega)
  rw[countN (show¬((o2_2:Int)<(x0.length:Int))from c3),F25_l2]at h
  refine ww ?_
  cases h
  exact eM [some 0,some 1] rfl
 rintro _ rfl
 clear ho
 refine ww ?_
 refine condBh h (fun c14 h=>?_) (fun c14 h=>?_)
 ·refine ww ?_
  refine t_bslice (enc:=eObject) (ys:=[x1.Object]) rfl rfl (by simp[A1.cells]) (by first|rfl|(simp only[List.drop_zero,take_mapL];rfl)|(simp only[lit,List.map_cons,List.map_nil,List.drop_zero,take_mapL,EE.down];done)|(simp only[lit,List.map_cons,List.map_nil,List.drop_zero,take_mapL,EE.down];rfl)) (ww ?_)
  obtain⟨a15,ha15,h⟩:=bi h
  refine t_app (enc:=eObject) (xs:=o2.1) rfl rfl (by first|rfl|simp only[List.length_set]|exact(clrL_len (slI_len (by assumption))).symm) rfl (rows_full (enc:=eObject) (by first|rfl|simp only[List.length_set]|exact(clrL_len (slI_len (by assumption))).symm) rfl) ha15 (ww ?_)
  cases h
  exact eF [some 1]
 refine ww ?_
 cases h
 exact eF [some 1]
def F26_l1(x0:(List Object))(x1:(List Object)):Nat→Int→Option ((Bool) ⊕ (Unit))
 |0,_=>none
 |k+1,o1_0=>(((if o1_0<(x0.length:Int)then some (decide (o1_0<(x1.length:Int)))else some false)).bind fun o2=>(if o2=true then(rdI x0 o1_0).bind fun y5=>(rdI x1 o1_0).bind fun y6=>(F45 y5 y6).bind fun t7=>(if(nb t7)=true then(some false).map Sum.inl else F26_l1 x0 x1 k ((IntKind.i64.wrap (o1_0+1))))else some (Sum.inr (()))))
def F26(x0:(List Object))(x1:(List Object)):Option (Bool):=((F26_l1 x0 x1 1099511627776 0:Option ((Bool) ⊕ (Unit))).bind fun o1=>match o1 with|Sum.inl f=>some f|Sum.inr po1=>some (decide ((x0.length:Int)=(x1.length:Int))))
def a26:AFn:=⟨33,[(.tmp 4)],
 (.seq (.reg [sq 4 (.mv (kB false))])
 (.seq (.seq (.reg [sq 5 (.mv (kI 0))])
 (.sem (.block 0 (.loop (.seq (.seq (.sem (.reg [sq 6 (.mv (.t 5)),
sq 7 (.mv (.t 0)),
sq 8 (.len (.t 7)),
sq 9 (.bin .lss (.t 6) (.t 8)),
sq 10 (.mv (.t 9)),
zg 11 10 true (.mv (.t 5)),
zg 12 10 true (.mv (.t 1)),
zg 13 10 true (.len (.t 12)),
zg 14 10 true (.bin .lss (.t 11) (.t 13)),
zl 15 (.pick (.t 10) (.t 14) (kB false)) [] [7,12]]))
 (.cond (.t 15)
 .skip
 (.exit 0)))
 (.seq (.block 1 (.seq (.regd [sq 18 (.mv (.t 0)),
sq 19 (.mv (.t 5)),
sd 20 (.indexA 23 (.t 18) (.t 19)) [0,1],
sd 21 (.load (some 23) (.t 20)) [0,1,2],
sq 22 (.mv (.t 1)),
sq 23 (.mv (.t 5)),
sd 24 (.indexA 23 (.t 22) (.t 23)) [4,5],
sd 25 (.load (some 23) (.t 24)) [4,5,6],
zl 26 (.call 45 [(.t 21),(.t 25)]) [0,1,2,3,4,5,6,7] [],
sd 27 (.not (.t 26)) [0,1,2,3,4,5,6,7,8]])
 (.cond (.t 27)
 (.seq (.reg [sq 4 (.mv (kB false))])
 .ret)
 .skip)))
 (.reg [sq 16 (.mv (.t 5)),
sq 17 (.bin .add (.t 16) (kI 1)),
sq 5 (.mv (.t 17))])))))))
 (.seq (.reg [sq 28 (.mv (.t 0)),
sq 29 (.len (.t 28)),
sq 30 (.mv (.t 1)),
sq 31 (.len (.t 30)),
sq 32 (.bin .eql (.t 29) (.t 31)),
sq 4 (.mv (.t 32))])
 .ret)))⟩
theorem a26_ok:afn Tryz.prog 26=some a26.er:=by kernel_rfl
theorem F26_ok{x0 x1 r}(h:F26 x0 x1=some r):CallD Tryz.prog 26 [.c (dM (x0.map eObject)),.c (dM (x1.map eObject))] [] (tupV [.c (dB r)]) []:=by
 refine callS a26_ok (by simp[a26]) ?_
 rw[F26]at h
 simp only[a26,VW.down,Nat.reduceEqDiff,reduceCtorEq,Nat.reduceAdd,Nat.reduceLeDiff,Nat.reduceLT,Nat.reduceBEq,Nat.reduceSub,EE.down]
 obtain⟨o1,ho,h⟩:=bi h
 refine cutS (fun s=>∃po1,o1=Sum.inr po1∧s=⟨[(0,.one (.c (dM (x0.map eObject)))),(1,.one (.c (dM (x1.map eObject))))],[]⟩) ?_ ?_
 ·have h0o1:=h
  have h:=ho
  clear ho
  refine ww ?_
  refine bL (fun j s=>∃(o1_0:Int),s=⟨[(0,.one (.c (dM (x0.map eObject)))),(1,.one (.c (dM (x1.map eObject)))),(5,.one (.c (dI o1_0)))],[]⟩∧F26_l1 x0 x1 j o1_0=some o1) 1099511627776 [] ⟨0,rfl,h⟩ ?_
  rintro j _ ⟨o1_0,rfl,h⟩
  cases j with
  |zero=>cases(show(none:Option _)=some _ from h)
  |succ j=>
   rw[F26_l1]at h
   refine ww ?_
   obtain⟨o2,ho,h⟩:=bi h
   refine cutS (fun s=>s=⟨[(0,.one (.c (dM (x0.map eObject)))),(1,.one (.c (dM (x1.map eObject)))),(5,.one (.c (dI o1_0))),(15,.one (.c (dB o2)))],[]⟩) ?_ ?_
   ·have h:=ho
    clear ho
    refine ww ?_
    refine guardSh h (fun g3 h=>?_) (fun g3 h=>?_)
    ·refine ww ?_
     cases h
     exact eM [] rfl
    ·refine ww ?_
     cases h
     exact eM [] rfl
   ·rintro _ rfl
    clear ho
    refine ww ?_
    refine condBh h (fun c4 h=>?_) (fun c4 h=>?_)
    ·refine ww ?_
     obtain⟨y5,hy5,h⟩:=bi h
     refine t_idxF (enc:=eObject) (xs:=x0) rfl rfl hy5 rfl (ww ?_)
     obtain⟨y6,hy6,h⟩:=bi h
     refine t_idxF (enc:=eObject) (xs:=x1) rfl rfl hy6 rfl (ww ?_)
     obtain⟨t7,ht7,h⟩:=bi h
     refine cN [] (F45_ok ht7) trivial (ww ?_)
     refine condBh h (fun c8 h=>?_) (fun c8 h=>?_)
     ·refine ww ?_
      obtain⟨fh0o1,hfh0o1,rfl⟩:=Option.map_eq_some_iff.1 h
      have h:=hfh0o1.trans h0o1
      cases h
      exact eF []
     ·refine ww ?_
      exact eL' j [] ⟨(IntKind.i64.wrap (o1_0+1)),rfl,h⟩ (Nat.lt_succ_self _)
    ·refine ww ?_
     cases h
     exact eM [] ⟨_,rfl,rfl⟩
 rintro _ ⟨po1,rfl,rfl⟩
 clear ho
 dsimp only at h
 refine ww ?_
 cases h
 exact eF []
def F5_l19(t12:(List Requirement)×Int×(List Event)×Int):List Event→Nat→(List Object)→Option ((Bool) ⊕ ((List Object)))
 |[],o19_1,o19_0=>some (Sum.inr o19_0)
 |xo19::xs,o19_1,o19_0=>(((rdI t12.2.2.1 ((o19_1:Int))).bind fun y22=>(if y22.Type_=4 then some (Sum.inr o19_0)else(rdI t12.2.2.1 ((o19_1:Int))).bind fun y24=>(F24 y24.Object.Meta).bind fun t25=>(F23 o19_0 t25).bind fun t26=>(rdI t12.2.2.1 ((o19_1:Int))).bind fun y27=>(if((((decide (0≤t26))==(decide (¬(y27.Type_=1))))!=true))=true then((some false).map Sum.inl).map Sum.inl else(rdI t12.2.2.1 ((o19_1:Int))).bind fun y29=>(F25 o19_0 y29).bind fun t30=>some (Sum.inr t30))):Option (((Bool) ⊕ ((List Object))) ⊕ ((List Object)))).bind fun o21=>match o21 with|Sum.inl f=>some f|Sum.inr po21=>F5_l19 t12 xs (o19_1+1) po21)
def F5(x0:(List TOp))(x1:Filter)(x2:Int)(x3:Int):Option (Bool):=(((F8 x0).bind fun t2=>(if(nb t2)=true then some true else(F9 x1).bind fun t4=>some (nb t4))).bind fun o1=>(if o1=true then(F10).bind fun t6=>some t6 else(F11 x0).bind fun t7=>(F12 ((⟨(t7).Rev,(t7).Floor,(t7).NextUid,(t7).Base,(t7).Objects,(t7).History⟩:TStore)) x1 x2).bind fun t8=>(if¬(t8.2.2.2.2=0)then(F10).bind fun t10=>some t10 else(F21 ((⟨(t7).Rev,(t7).Floor,(t7).NextUid,(t7).Base,(t7).Objects,(t7).History⟩:TStore)) x2).bind fun t11=>(F14 ((⟨(t7).Rev,(t7).Floor,(t7).NextUid,(t7).Base,(t7).Objects,(t7).History⟩:TStore)) ((⟨(⟨t8.1,t8.2.1,t8.2.2.1⟩:Filter),t8.2.2.2.1⟩:Watcher)) x3).bind fun t12=>(F21 ((⟨(t7).Rev,(t7).Floor,(t7).NextUid,(t7).Base,(t7).Objects,(t7).History⟩:TStore)) t12.2.1).bind fun t13=>(((if¬(t11.2=0)then some true else(if¬(t12.2.2.2=0)then some true else some (decide (¬(t13.2=0)))))).bind fun o14=>(if o14=true then some false else(F22 x1 t11.1).bind fun t18=>(((ck (0≤t12.2.2.1.length∧t12.2.2.1.length≤4294967290)).bind fun u31=>F5_l19 t12 t12.2.2.1 0 t18:Option ((Bool) ⊕ ((List Object)))).bind fun o19=>match o19 with|Sum.inl f=>some f|Sum.inr po19=>(((F10).bind fun t33=>(if t33=true then(F22 x1 t13.1).bind fun t35=>(F26 po19 t35).bind fun t36=>some t36 else some false)).bind fun o32=>some o32)))))))
def a5:AFn:=⟨121,[(.tmp 8)],
 (.seq (.reg [sq 5 (.box (.t 1)),
sq 8 (.mv (kB false))])
 (.seq (.seq (.sem (.reg [sq 22 (.mv (.t 0)),
sq 23 (.call 8 [(.t 22)]),
sq 24 (.not (.t 23)),
sq 25 (.mv (.t 24)),
zg 26 25 false (.load (some 3) (.t 5)),
zg 27 25 false (.call 9 [(.t 26)]),
zg 28 25 false (.not (.t 27)),
sq 29 (.pick (.t 25) (kB true) (.t 28))]))
 (.cond (.t 29)
 (.seq (.reg [sq 30 (.call 10 []),
sq 8 (.mv (.t 30))])
 .ret)
 .skip))
 (.seq (.reg [sq 31 (.mv (.t 0)),
sq 32 (.call 11 [(.t 31)]),
sq 9 (.zbox [dI 0,dI 0,dI 0,dN,dN,dN]),
su (.store 6 (.t 9) (.t 32))])
 (.seq (.reg [sq 34 (.load (some 6) (.t 9)),
sq 35 (.load (some 3) (.t 5)),
sq 36 (.mv (.t 2)),
sq 37 (.call 12 [(.t 34),(.t 35),(.t 36)]),
sq 33 (.mv (.t 37)),
sq 38 (.ext (.t 33) 0),
sq 39 (.ext (.t 33) 1),
sq 10 (.zbox [dS ⟨#[]⟩,dS ⟨#[]⟩,dN,dI 0]),
su (.store 4 (.t 10) (.t 38)),
sq 11 (.mv (.t 39))])
 (.seq (.seq (.reg [sq 40 (.mv (.t 11)),
sq 41 (.bin .neq (.t 40) (kI 0))])
 (.cond (.t 41)
 (.seq (.reg [sq 42 (.call 10 []),
sq 8 (.mv (.t 42))])
 .ret)
 .skip))
 (.seq (.reg [sq 44 (.load (some 6) (.t 9)),
sq 45 (.mv (.t 2)),
sq 46 (.call 21 [(.t 44),(.t 45)]),
sq 43 (.mv (.t 46)),
sq 47 (.ext (.t 43) 0),
sq 48 (.ext (.t 43) 1),
sq 12 (.mv (.t 47)),
sq 13 (.mv (.t 48))])
 (.seq (.reg [sq 50 (.load (some 6) (.t 9)),
sq 51 (.load (some 4) (.t 10)),
sq 52 (.mv (.t 3)),
sq 53 (.call 14 [(.t 50),(.t 51),(.t 52)]),
sq 49 (.mv (.t 53)),
sq 54 (.ext (.t 49) 0),
sq 55 (.ext (.t 49) 1),
sq 56 (.ext (.t 49) 2),
sq 14 (.zbox [dS ⟨#[]⟩,dS ⟨#[]⟩,dN,dI 0]),
su (.store 4 (.t 14) (.t 54)),
sq 15 (.mv (.t 55)),
sq 16 (.mv (.t 56))])
 (.seq (.reg [sq 58 (.load (some 6) (.t 9)),
sq 59 (.fieldA 3 (.t 14)),
sq 60 (.load none (.t 59)),
sq 61 (.call 21 [(.t 58),(.t 60)]),
sq 57 (.mv (.t 61)),
sq 62 (.ext (.t 57) 0),
sq 63 (.ext (.t 57) 1),
sq 17 (.mv (.t 62)),
sq 18 (.mv (.t 63))])
 (.seq (.seq (.sem (.reg [sq 64 (.mv (.t 13)),
sq 65 (.bin .neq (.t 64) (kI 0)),
sq 66 (.mv (.t 65)),
zg 67 66 false (.mv (.t 16)),
zg 68 66 false (.bin .neq (.t 67) (kI 0)),
sq 69 (.pick (.t 66) (kB true) (.t 68)),
sq 70 (.mv (.t 69)),
zg 71 70 false (.mv (.t 18)),
zg 72 70 false (.bin .neq (.t 71) (kI 0)),
sq 73 (.pick (.t 70) (kB true) (.t 72))]))
 (.cond (.t 73)
 (.seq (.reg [sq 8 (.mv (kB false))])
 .ret)
 .skip))
 (.seq (.reg [sq 74 (.load (some 3) (.t 5)),
sq 75 (.mv (.t 12)),
sq 76 (.call 22 [(.t 74),(.t 75)]),
sq 19 (.mv (.t 76))])
 (.seq (.seq (.reg [sq 20 (.mv (kI 0))])
 (.sem (.block 0 (.loop (.seq (.seq (.reg [sq 77 (.mv (.t 20)),
sq 78 (.mv (.t 15)),
sq 79 (.len (.t 78)),
sq 80 (.bin .lss (.t 77) (.t 79))])
 (.cond (.t 80)
 .skip
 (.exit 0)))
 (.seq (.sem (.block 1 (.seq (.seq (.reg [sq 83 (.mv (.t 15)),
sq 84 (.mv (.t 20)),
sq 85 (.indexA 25 (.t 83) (.t 84)),
sq 86 (.fieldA 0 (.t 85)),
sq 87 (.load none (.t 86)),
sq 88 (.bin .eql (.t 87) (kI 4))])
 (.cond (.t 88)
 (.exit 1)
 .skip))
 (.seq (.reg [sq 89 (.mv (.t 19)),
sq 90 (.mv (.t 15)),
sq 91 (.mv (.t 20)),
sq 92 (.indexA 25 (.t 90) (.t 91)),
sq 93 (.fieldA 2 (.t 92)),
sq 94 (.fieldA 0 (.t 93)),
sq 95 (.load (some 13) (.t 94)),
sq 96 (.call 24 [(.t 95)]),
sq 97 (.call 23 [(.t 89),(.t 96)]),
sq 98 (.bin .geq (.t 97) (kI 0)),
sq 21 (.mv (.t 98))])
 (.seq (.seq (.reg [sq 99 (.mv (.t 21)),
sq 100 (.mv (.t 15)),
sq 101 (.mv (.t 20)),
sq 102 (.indexA 25 (.t 100) (.t 101)),
sq 103 (.fieldA 0 (.t 102)),
sq 104 (.load none (.t 103)),
sq 105 (.bin .neq (.t 104) (kI 1)),
sq 106 (.beq true (.t 99) (.t 105))])
 (.cond (.t 106)
 (.seq (.reg [sq 8 (.mv (kB false))])
 .ret)
 .skip))
 (.reg [sq 107 (.mv (.t 19)),
sq 108 (.mv (.t 15)),
sq 109 (.mv (.t 20)),
sq 110 (.indexA 25 (.t 108) (.t 109)),
sq 111 (.load (some 25) (.t 110)),
sq 112 (.call 25 [(.t 107),(.t 111)]),
sq 19 (.mv (.t 112))]))))))
 (.reg [sq 81 (.mv (.t 20)),
sq 82 (.bin .add (.t 81) (kI 1)),
sq 20 (.mv (.t 82))])))))))
 (.seq (.sem (.reg [sq 113 (.call 10 []),
sq 114 (.mv (.t 113)),
zg 115 114 true (.mv (.t 19)),
zg 116 114 true (.load (some 3) (.t 5)),
zg 117 114 true (.mv (.t 17)),
zg 118 114 true (.call 22 [(.t 116),(.t 117)]),
zg 119 114 true (.call 26 [(.t 115),(.t 118)]),
sq 120 (.pick (.t 114) (.t 119) (kB false)),
sq 8 (.mv (.t 120))]))
 .ret))))))))))))⟩
theorem a5_ok:afn Tryz.prog 5=some a5.er:=by kernel_rfl
theorem F5_ok{x0 x1 x2 x3 r}(h:F5 x0 x1 x2 x3=some r):CallD Tryz.prog 5 [.c (dM (x0.map eTOp)),.agg [dS x1.Kind,dS x1.Namespace,dM (x1.Selector.map eRequirement)],.c (dI x2),.c (dI x3)] [] (tupV [.c (dB r)]) []:=by
 refine callS a5_ok (by simp[a5]) ?_
 rw[F5]at h
 simp only[a5,VW.down,Nat.reduceEqDiff,reduceCtorEq,Nat.reduceAdd,Nat.reduceLeDiff,Nat.reduceLT,Nat.reduceBEq,Nat.reduceSub,EE.down]
 obtain⟨o1,ho,h⟩:=bi h
 refine cutS (fun s=>s=⟨[(0,.one (.c (dM (x0.map eTOp)))),(2,.one (.c (dI x2))),(3,.one (.c (dI x3))),(5,.one (.c (.pt 0 0))),(29,.one (.c (dB o1)))],[some (.box [dS x1.Kind,dS x1.Namespace,dM (x1.Selector.map eRequirement)])]⟩) ?_ ?_
 ·have h:=ho
  clear ho
  refine ww ?_
  obtain⟨t2,ht2,h⟩:=bi h
  refine cN [] (F8_ok ht2) trivial (ww ?_)
  refine guardSBh h (fun g3 h=>?_) (fun g3 h=>?_)
  ·refine ww ?_
   cases h
   exact eM [some 0] rfl
  refine ww ?_
  obtain⟨t4,ht4,h⟩:=bi h
  refine cN [] (F9_ok ht4) trivial (ww ?_)
  cases h
  exact eM [some 0] rfl
 rintro _ rfl
 clear ho
 refine ww ?_
 refine condBh h (fun c5 h=>?_) (fun c5 h=>?_)
 ·refine ww ?_
  obtain⟨t6,ht6,h⟩:=bi h
  refine cN [] (F10_ok ht6) trivial (ww ?_)
  cases h
  exact eF []
 refine ww ?_
 obtain⟨t7,ht7,h⟩:=bi h
 refine cN [] (F11_ok ht7) trivial (ww ?_)
 obtain⟨t8,ht8,h⟩:=bi h
 refine cN [] (F12_ok ht8) trivial (ww ?_)
 refine condSh h (fun c9 h=>?_) (fun c9 h=>?_)
 ·refine ww ?_
  obtain⟨t10,ht10,h⟩:=bi h
  refine cN [] (F10_ok ht10) trivial (ww ?_)
  cases h
  exact eF []
 refine ww ?_
 obtain⟨t11,ht11,h⟩:=bi h
 refine cN [] (F21_ok ht11) trivial (ww ?_)
 obtain⟨t12,ht12,h⟩:=bi h
 refine callX_gen (as1:=[.agg [dI ((t7).Rev),dI ((t7).Floor),dI ((t7).NextUid),dM (((t7).Base).map eObject),dM (((t7).Objects).map eObject),dM (((t7).History).map eChange)],.agg [dS t8.1,dS t8.2.1,dM (t8.2.2.1.map eRequirement),dI t8.2.2.2.1],.c (dI x3)]) [(2,.arr 1 3 []),(3,.box [dS t8.1,dS t8.2.1,.own 2 0 0 0 (some 0),dI t8.2.2.2.1])] [some 0,some 1,none,some 3,some 4] [] (F14_ok ht12) ⟨?_,rfl,?_⟩ ?_ ?_ ?_ ?_ ?_ ?_ ?_ ?_
 ·simp only[ZZ.down,Nat.reduceEqDiff,reduceCtorEq,Nat.reduceAdd,Nat.reduceLeDiff,Nat.reduceLT,Nat.reduceBNe,EE.down]
 ·simp only[ZZ.down,Nat.reduceEqDiff,reduceCtorEq,Nat.reduceAdd,Nat.reduceLeDiff,Nat.reduceLT,Nat.reduceBNe,EE.down]
 ·simp only[ZZ.down,Nat.reduceEqDiff,reduceCtorEq,Nat.reduceAdd,Nat.reduceLeDiff,Nat.reduceLT,Nat.reduceBNe,EE.down]
 ·rfl
 ·rfl
 ·simp[liveAll,A1.live,C.live]
 ·rfl
 ·decide
 ·exact trivial
 refine ww ?_
 obtain⟨t13,ht13,h⟩:=bi h
 refine cN [] (F21_ok ht13) trivial (ww ?_)
 obtain⟨o14,ho,h⟩:=bi h
 refine cutS (fun s=>s=⟨[(5,.one (.c (.pt 0 0))),(12,.one (.c (.own 1 0 0 (t11.1.length) none))),(15,.one (.c (.own 2 0 0 (t12.2.2.1.length) none))),(17,.one (.c (.own 3 0 0 (t13.1.length) none))),(73,.one (.c (dB o14)))],[some (.box [dS x1.Kind,dS x1.Namespace,dM (x1.Selector.map eRequirement)]),some (.arr 0 23 (t11.1.map eObject)),some (.arr 0 25 (t12.2.2.1.map eEvent)),some (.arr 0 23 (t13.1.map eObject))]⟩) ?_ ?_
 ·have h:=ho
  clear ho
  refine ww ?_
  refine guardSh h (fun g15 h=>?_) (fun g15 h=>?_)
  ·refine ww ?_
   cases h
   exact eM [some 0,some 4,some 6,some 8] rfl
  refine ww ?_
  refine guardSh h (fun g16 h=>?_) (fun g16 h=>?_)
  ·refine ww ?_
   cases h
   exact eM [some 0,some 4,some 6,some 8] rfl
  refine ww ?_
  cases h
  exact eM [some 0,some 4,some 6,some 8] rfl
 rintro _ rfl
 clear ho
 refine ww ?_
 refine condBh h (fun c17 h=>?_) (fun c17 h=>?_)
 ·refine ww ?_
  cases h
  exact eF []
 refine ww ?_
 obtain⟨t18,ht18,h⟩:=bi h
 refine callX_gen (as1:=[.agg [dS x1.Kind,dS x1.Namespace,dM (x1.Selector.map eRequirement)],.c (dM (t11.1.map eObject))]) [(1,.arr 1 23 [])] [some 0,none,some 2,some 3] [] (F22_ok ht18) ⟨?_,rfl,?_⟩ ?_ ?_ ?_ ?_ ?_ ?_ ?_ ?_
 ·simp only[ZZ.down,Nat.reduceEqDiff,reduceCtorEq,Nat.reduceAdd,Nat.reduceLeDiff,Nat.reduceLT,Nat.reduceBNe,EE.down]
 ·simp only[ZZ.down,Nat.reduceEqDiff,reduceCtorEq,Nat.reduceAdd,Nat.reduceLeDiff,Nat.reduceLT,Nat.reduceBNe,EE.down]
 ·simp only[ZZ.down,Nat.reduceEqDiff,reduceCtorEq,Nat.reduceAdd,Nat.reduceLeDiff,Nat.reduceLT,Nat.reduceBNe,EE.down]
 ·rfl
 ·rfl
 ·simp[liveAll,A1.live,C.live]
 ·rfl
 ·decide
 ·exact trivial
 refine ww ?_
 obtain⟨o19,ho,h⟩:=bi h
 refine cutS (fun s=>∃po19,o19=Sum.inr po19∧s=⟨[(5,.one (.c (.pt 0 0))),(17,.one (.c (.own 1 0 0 (t13.1.length) none))),(19,.one (.c (.own 2 0 0 (po19.length) none)))],[some (.box [dS x1.Kind,dS x1.Namespace,dM (x1.Selector.map eRequirement)]),some (.arr 0 23 (t13.1.map eObject)),some (.arr 0 23 (po19.map eObject))]⟩) ?_ ?_
 ·have h0o19:=h
  have h:=ho
  clear ho
  obtain⟨_,hk,h⟩:=bi h
  have hk:=ck_some hk
  refine ww ?_
  refine bL (fun j s=>∃(o19_1:Nat) (o19_0:List Object),(o19_1≤t12.2.2.1.length∧j=t12.2.2.1.length-o19_1)∧s=⟨[(5,.one (.c (.pt 0 0))),(15,.one (.c (.own 1 0 0 (t12.2.2.1.length) none))),(17,.one (.c (.own 2 0 0 (t13.1.length) none))),(19,.one (.c (.own 3 0 0 (o19_0.length) none))),(20,.one (.c (dI ((o19_1:Int)))))],[some (.box [dS x1.Kind,dS x1.Namespace,dM (x1.Selector.map eRequirement)]),some (.arr 0 25 (t12.2.2.1.map eEvent)),some (.arr 0 23 (t13.1.map eObject)),some (.arr 0 23 (o19_0.map eObject))]⟩∧F5_l19 t12 (t12.2.2.1.drop o19_1) o19_1 o19_0=some o19) (t12.2.2.1.length-0) [some 0,some 2,some 3,some 4] ⟨0,t18,⟨hk.1,rfl⟩,rfl,h⟩ ?_
  rintro _ _ ⟨o19_1,o19_0,⟨hi,rfl⟩,rfl,h⟩
  refine ww ?_
  refine condS (fun c20=>?_) (fun c20=>?_)
  ·obtain⟨xo19,hxo19,hd⟩:=countY (show(o19_1:Int)<(t12.2.2.1.length:Int)from c20)
   rw[hd,F5_l19]at h
   refine ww ?_
   obtain⟨o21,ho,h⟩:=bi h
   refine cutS (fun s=>∃po21,o21=Sum.inr po21∧s=⟨[(5,.one (.c (.pt 0 0))),(15,.one (.c (.own 1 0 0 (t12.2.2.1.length) none))),(17,.one (.c (.own 2 0 0 (t13.1.length) none))),(19,.one (.c (.own 3 0 0 (po21.length) none))),(20,.one (.c (dI ((o19_1:Int)))))],[some (.box [dS x1.Kind,dS x1.Namespace,dM (x1.Selector.map eRequirement)]),some (.arr 0 25 (t12.2.2.1.map eEvent)),some (.arr 0 23 (t13.1.map eObject)),some (.arr 0 23 (po21.map eObject))]⟩) ?_ ?_
   ·have h0o21:=h
    have h:=ho
    clear ho
    refine ww ?_
    obtain⟨y22,hy22,h⟩:=bi h
    refine t_idxO (enc:=eEvent) (xs:=t12.2.2.1) rfl rfl rfl (by first|rfl|simp only[List.length_set]|exact(clrL_len (slI_len (by assumption))).symm) hy22 (ww ?_)
    refine LdRow.rd (rdI_some hy22).2.1 (ww ?_)
    refine condSh h (fun c23 h=>?_) (fun c23 h=>?_)
    ·refine ww ?_
     cases h
     exact eM [some 0,some 1,some 2,some 3] ⟨_,rfl,rfl⟩
    refine ww ?_
    obtain⟨y24,hy24,h⟩:=bi h
    refine t_idxO (enc:=eEvent) (xs:=t12.2.2.1) rfl rfl rfl (by first|rfl|simp only[List.length_set]|exact(clrL_len (slI_len (by assumption))).symm) hy24 (ww ?_)
    refine LdRow.rd (rdI_some hy24).2.1 (ww ?_)
    obtain⟨t25,ht25,h⟩:=bi h
    refine cN [] (F24_ok ht25) trivial (ww ?_)
    obtain⟨t26,ht26,h⟩:=bi h
    refine callX_bor (F23_ok ht26) (by simp only[borAs,bors,hp,List.getElem?_cons_zero,List.getElem?_cons_succ,Option.join_some,List.drop_zero,bor_full',true_and,Nat.zero_add,List.length_map,Nat.le_refl,nrm,List.length_cons,List.length_nil,Nat.reduceAdd,Nat.reduceLeDiff,List.take_succ_cons,List.take_zero,List.take_nil,List.map_cons,List.map_nil,List.length_set,EE.down]) rfl ?_
    refine ww ?_
    obtain⟨y27,hy27,h⟩:=bi h
    refine t_idxO (enc:=eEvent) (xs:=t12.2.2.1) rfl rfl rfl (by first|rfl|simp only[List.length_set]|exact(clrL_len (slI_len (by assumption))).symm) hy27 (ww ?_)
    refine LdRow.rd (rdI_some hy27).2.1 (ww ?_)
    refine condBh h (fun c28 h=>?_) (fun c28 h=>?_)
    ·refine ww ?_
     obtain⟨fh0o21,hfh0o21,rfl⟩:=Option.map_eq_some_iff.1 h
     have h:=hfh0o21.trans h0o21
     obtain⟨fh0o19,hfh0o19,rfl⟩:=Option.map_eq_some_iff.1 h
     have h:=hfh0o19.trans h0o19
     cases h
     exact eF []
    refine ww ?_
    obtain⟨y29,hy29,h⟩:=bi h
    refine t_idxO (enc:=eEvent) (xs:=t12.2.2.1) rfl rfl rfl (by first|rfl|simp only[List.length_set]|exact(clrL_len (slI_len (by assumption))).symm) hy29 (ww ?_)
    refine LdRow.rd (rdI_some hy29).2.1 (ww ?_)
    obtain⟨t30,ht30,h⟩:=bi h
    refine callX_gen (as1:=[.c (dM (o19_0.map eObject)),.agg [dI y29.Type_,dI y29.Rev,dS y29.Object.Meta.Kind,dS y29.Object.Meta.Namespace,dS y29.Object.Meta.Name,dI y29.Object.Meta.Uid,dI y29.Object.Meta.Version,dI y29.Object.Meta.Generation,dI y29.Object.Meta.Created,dB y29.Object.Meta.Deleting,dI y29.Object.Meta.DeleteAt,dM (y29.Object.Meta.Labels.map eLabel),dM (y29.Object.Meta.Owners.map eOwner),dM (y29.Object.Meta.Finalizers.map eS),dM (y29.Object.Meta.Managers.map eManager),dI y29.Object.Spec.Kind,dI y29.Object.Spec.N,dS y29.Object.Spec.S,dM (y29.Object.Spec.List_.map eTValue),dM (y29.Object.Spec.Fields.map eTField),dI y29.Object.Status.Kind,dI y29.Object.Status.N,dS y29.Object.Status.S,dM (y29.Object.Status.List_.map eTValue),dM (y29.Object.Status.Fields.map eTField)]]) [(3,.arr 1 23 [])] [some 0,some 1,some 2,none] [] (F25_ok ht30) ⟨?_,rfl,?_⟩ ?_ ?_ ?_ ?_ ?_ ?_ ?_ ?_
    ·simp only[ZZ.down,Nat.reduceEqDiff,reduceCtorEq,Nat.reduceAdd,Nat.reduceLeDiff,Nat.reduceLT,Nat.reduceBNe,EE.down]
    ·simp only[ZZ.down,Nat.reduceEqDiff,reduceCtorEq,Nat.reduceAdd,Nat.reduceLeDiff,Nat.reduceLT,Nat.reduceBNe,EE.down]
    ·simp only[ZZ.down,Nat.reduceEqDiff,reduceCtorEq,Nat.reduceAdd,Nat.reduceLeDiff,Nat.reduceLT,Nat.reduceBNe,EE.down]
    ·rfl
    ·rfl
    ·simp[liveAll,A1.live,C.live]
    ·rfl
    ·decide
    ·exact trivial
    refine ww ?_
    cases h
    exact eM [some 0,some 1,some 2,some 4] ⟨_,rfl,rfl⟩
   rintro _ ⟨po21,rfl,rfl⟩
   clear ho
   dsimp only at h
   refine ww ?_
   rw[wrapN (by omega)]
   exact eL' (t12.2.2.1.length-(o19_1+1)) [some 0,some 1,some 2,some 3] ⟨o19_1+1,po21,⟨by omega,rfl⟩,rfl,h⟩ (by omega)
  rw[countN (show¬((o19_1:Int)<(t12.2.2.1.length:Int))from c20),F5_l19]at h
  refine ww ?_
  cases h
  exact eM [some 0,some 2,some 3] ⟨_,rfl,rfl⟩
 rintro _ ⟨po19,rfl,rfl⟩
 clear ho
 dsimp only at h
 refine ww ?_
 obtain⟨o32,ho,h⟩:=bi h
 refine cutS (fun s=>s=⟨[(8,.one (.c (dB o32)))],[]⟩) ?_ ?_
 ·have h:=ho
  clear ho
  refine ww ?_
  obtain⟨t33,ht33,h⟩:=bi h
  refine cN [] (F10_ok ht33) trivial (ww ?_)
  refine guardSBh h (fun g34 h=>?_) (fun g34 h=>?_)
  ·refine ww ?_
   obtain⟨t35,ht35,h⟩:=bi h
   refine callX_gen (as1:=[.agg [dS x1.Kind,dS x1.Namespace,dM (x1.Selector.map eRequirement)],.c (dM (t13.1.map eObject))]) [(1,.arr 1 23 [])] [some 0,none,some 2] [] (F22_ok ht35) ⟨?_,rfl,?_⟩ ?_ ?_ ?_ ?_ ?_ ?_ ?_ ?_
   ·simp only[ZZ.down,Nat.reduceEqDiff,reduceCtorEq,Nat.reduceAdd,Nat.reduceLeDiff,Nat.reduceLT,Nat.reduceBNe,EE.down]
   ·simp only[ZZ.down,Nat.reduceEqDiff,reduceCtorEq,Nat.reduceAdd,Nat.reduceLeDiff,Nat.reduceLT,Nat.reduceBNe,EE.down]
   ·simp only[ZZ.down,Nat.reduceEqDiff,reduceCtorEq,Nat.reduceAdd,Nat.reduceLeDiff,Nat.reduceLT,Nat.reduceBNe,EE.down]
   ·rfl
   ·rfl
   ·simp[liveAll,A1.live,C.live]
   ·rfl
   ·decide
   ·exact trivial
   refine ww ?_
   obtain⟨t36,ht36,h⟩:=bi h
   refine callX_bor (F26_ok ht36) (by simp only[borAs,bors,hp,List.getElem?_cons_zero,List.getElem?_cons_succ,Option.join_some,List.drop_zero,bor_full',true_and,Nat.zero_add,List.length_map,Nat.le_refl,nrm,List.length_cons,List.length_nil,Nat.reduceAdd,Nat.reduceLeDiff,List.take_succ_cons,List.take_zero,List.take_nil,List.map_cons,List.map_nil,List.length_set,EE.down]) rfl ?_
   refine ww ?_
   cases h
   exact eM [] rfl
  refine ww ?_
  cases h
  exact eM [] rfl
 rintro _ rfl
 clear ho
 refine ww ?_
 cases h
 exact eF []
end Go.Proofs.YtondgcmdhkhkkaaGreat
