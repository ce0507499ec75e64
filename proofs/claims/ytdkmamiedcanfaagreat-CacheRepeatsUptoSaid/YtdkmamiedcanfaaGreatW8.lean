/- Each Go function as a function over typed data, and its walk. -/
import Derived.Test.YtdkmamiedcanfaaGreatW0
import Derived.Test.YtdkmamiedcanfaaGreatW1
import Derived.Test.YtdkmamiedcanfaaGreatW2
import Derived.Test.YtdkmamiedcanfaaGreatW3
import Derived.Test.YtdkmamiedcanfaaGreatW5
import Derived.Test.YtdkmamiedcanfaaGreatW6
namespace Go.Proofs.YtdkmamiedcanfaaGreat
open Go Go.Fw Go.Shelf
set_option maxRecDepth 100000
set_option maxHeartbeats 4000000
set_option linter.unusedSimpArgs false
set_option linter.unusedVariables false
def F123_l1(x1:Object):List Object→Nat→(List Object)→Bool→Option ((List Object)×Bool)
 |[],o1_2,o1_0,o1_1=>some ((o1_0,o1_1))
 |xo1::xs,o1_2,o1_0,o1_1=>(((((((if(nb o1_1)=true then(F92 xo1).bind fun t7=>(F92 x1).bind fun t8=>some (nb (Op.bytesLess t7.toList t8.toList))else some false)).bind fun o5=>(if o5=true then(apI o1_0 ([x1])).bind fun a10=>(F92 xo1).bind fun t11=>(F92 x1).bind fun t12=>(if t11=t12 then(some ((a10,true))).map Sum.inl else some (Sum.inr ((a10,true))))else some (Sum.inr ((o1_0,o1_1))))):Option (((List Object)×Bool) ⊕ ((List Object)×Bool))).bind fun o4=>match o4 with|Sum.inl f=>some f|Sum.inr po4=>(apI po4.1 ([xo1])).bind fun a14=>some ((a14,po4.2)))).bind fun o3=>F123_l1 x1 xs (o1_2+1) o3.1 o3.2)
def F123(x0:(List Object))(x1:Object):Option ((List Object)):=(((ck (0≤x0.length∧x0.length≤4294967290)).bind fun u15=>F123_l1 x1 x0 0 ([]) false).bind fun o1=>(if(nb o1.2)=true then(apI o1.1 ([x1])).bind fun a17=>some a17 else some o1.1))
def a123:AFn:=⟨53,[(.tmp 4)],
 (.seq (.reg [sq 3 (.box (.t 1)),
sq 4 (.mv kN)])
 (.seq (.reg [sq 8 (.bslice 23 []),
sq 5 (.mv (.t 8))])
 (.seq (.reg [sq 6 (.mv (kB false))])
 (.seq (.seq (.reg [sq 7 (.mv (kI 0))])
 (.sem (.block 0 (.loop (.seq (.seq (.reg [sq 9 (.mv (.t 7)),
sq 10 (.mv (.t 0)),
sq 11 (.len (.t 10)),
sq 12 (.bin .lss (.t 9) (.t 11))])
 (.cond (.t 12)
 .skip
 (.exit 0)))
 (.seq (.sem (.block 1 (.seq (.sem (.seq (.sem (.regd [sq 15 (.mv (.t 6)),
sd 16 (.not (.t 15)) [0],
sd 17 (.mv (.t 16)) [0,1],
⟨(some 18),(some (17,true)),.mv (.t 0),[0,1,2],(.new [])⟩,
⟨(some 19),(some (17,true)),.mv (.t 7),[0,1,2],(.new [])⟩,
⟨(some 20),(some (17,true)),.indexA 23 (.t 18) (.t 19),[0,1,2,3,4],(.new [])⟩,
⟨(some 21),(some (17,true)),.load (some 23) (.t 20),[0,1,2,3,4,5],(.new [])⟩,
⟨(some 22),(some (17,true)),.call 92 [(.t 21)],[0,1,2,3,4,5,6],(.new [3,4,5,6])⟩,
⟨(some 23),(some (17,true)),.load (some 23) (.t 3),[0,1,2],(.new [])⟩,
⟨(some 24),(some (17,true)),.call 92 [(.t 23)],[0,1,2,3,4,5,6,7,8],(.lone [])⟩,
⟨(some 25),(some (17,true)),.bin .geq (.t 22) (.t 24),[0,1,2,3,4,5,6,7,8,9],(.new [])⟩,
zl 26 (.pick (.t 17) (.t 25) (kB false)) [0,1,2,3,4,5,6,7,8,9,10] []]))
 (.cond (.t 26)
 (.seq (.reg [sq 27 (.mv (.t 5)),
sq 28 (.load (some 23) (.t 3)),
sq 29 (.bslice 23 [(.t 28)]),
sq 30 (.app 23 352 (.t 27) (.t 29)),
sq 5 (.mv (.t 30))])
 (.seq (.reg [sq 6 (.mv (kB true))])
 (.seq (.regd [sq 31 (.mv (.t 0)),
sq 32 (.mv (.t 7)),
sd 33 (.indexA 23 (.t 31) (.t 32)) [0,1],
sd 34 (.load (some 23) (.t 33)) [0,1,2],
zn 35 (.call 92 [(.t 34)]) [0,1,2,3] [0,1,2,3],
sq 36 (.load (some 23) (.t 3)),
zl 37 (.call 92 [(.t 36)]) [0,1,2,3,4,5] [],
sd 38 (.bin .eql (.t 35) (.t 37)) [0,1,2,3,4,5,6]])
 (.cond (.t 38)
 (.exit 1)
 .skip))))
 .skip)))
 (.reg [sq 39 (.mv (.t 5)),
sq 40 (.mv (.t 0)),
sq 41 (.mv (.t 7)),
sq 42 (.indexA 23 (.t 40) (.t 41)),
sq 43 (.load (some 23) (.t 42)),
sq 44 (.bslice 23 [(.t 43)]),
sq 45 (.app 23 352 (.t 39) (.t 44)),
sq 5 (.mv (.t 45))]))))
 (.reg [sq 13 (.mv (.t 7)),
sq 14 (.bin .add (.t 13) (kI 1)),
sq 7 (.mv (.t 14))])))))))
 (.seq (.seq (.reg [sq 46 (.mv (.t 6)),
sq 47 (.not (.t 46))])
 (.cond (.t 47)
 (.reg [sq 48 (.mv (.t 5)),
sq 49 (.load (some 23) (.t 3)),
sq 50 (.bslice 23 [(.t 49)]),
sq 51 (.app 23 352 (.t 48) (.t 50)),
sq 5 (.mv (.t 51))])
 .skip))
 (.seq (.reg [sq 52 (.mv (.t 5)),
sq 4 (.mv (.t 52))])
 .ret))))))⟩
theorem F123_ok{x0 x1 r}(h:F123 x0 x1=some r):CallD Tryz.prog 123 [.c (dM (x0.map eObject)),.agg [dS x1.Meta.Kind,dS x1.Meta.Namespace,dS x1.Meta.Name,dI x1.Meta.Uid,dI x1.Meta.Version,dI x1.Meta.Generation,dI x1.Meta.Created,dB x1.Meta.Deleting,dI x1.Meta.DeleteAt,dM (x1.Meta.Labels.map eLabel),dM (x1.Meta.Owners.map eOwner),dM (x1.Meta.Finalizers.map eS),dM (x1.Meta.Managers.map eManager),dI x1.Spec.Kind,dI x1.Spec.N,dS x1.Spec.S,dM (x1.Spec.List_.map eTValue),dM (x1.Spec.Fields.map eTField),dI x1.Status.Kind,dI x1.Status.N,dS x1.Status.S,dM (x1.Status.List_.map eTValue),dM (x1.Status.Fields.map eTField)]] [] (tupV [.c (.own 0 0 0 (r.length) none)]) [some (.arr 0 23 (r.map eObject))]:=by
 rw[F123]at h
 refine zc a123 (by kernel_rfl) rfl (ww ?_)
 refine t_bslice (enc:=eObject) (ys:=([]:List Object)) rfl rfl (by simp[A1.cells]) (by first|rfl|(simp only[List.drop_zero,take_mapL];rfl)|(simp only[lit,List.map_cons,List.map_nil,List.drop_zero,take_mapL,EE.down];done)|(simp only[lit,List.map_cons,List.map_nil,List.drop_zero,take_mapL,EE.down];rfl)) (ww ?_)
 obtain⟨o1,ho,h⟩:=bi h
 refine cutS (fun s=>s=⟨[(3,.one (.c (.pt 0 0))),(5,.one (.c (.own 1 0 0 (o1.1.length) none))),(6,.one (.c (dB o1.2)))],[some (.box [dS x1.Meta.Kind,dS x1.Meta.Namespace,dS x1.Meta.Name,dI x1.Meta.Uid,dI x1.Meta.Version,dI x1.Meta.Generation,dI x1.Meta.Created,dB x1.Meta.Deleting,dI x1.Meta.DeleteAt,dM (x1.Meta.Labels.map eLabel),dM (x1.Meta.Owners.map eOwner),dM (x1.Meta.Finalizers.map eS),dM (x1.Meta.Managers.map eManager),dI x1.Spec.Kind,dI x1.Spec.N,dS x1.Spec.S,dM (x1.Spec.List_.map eTValue),dM (x1.Spec.Fields.map eTField),dI x1.Status.Kind,dI x1.Status.N,dS x1.Status.S,dM (x1.Status.List_.map eTValue),dM (x1.Status.Fields.map eTField)]),some (.arr 0 23 (o1.1.map eObject))]⟩) ?_ ?_
 ·have h:=ho
  clear ho
  obtain⟨_,hk,h⟩:=bi h
  have hk:=ck_some hk
  refine ww ?_
  refine bL (fun j s=>∃(o1_2:Nat) (o1_0:List Object) (o1_1:Bool),(o1_2≤x0.length∧j=x0.length-o1_2)∧s=⟨[(0,.one (.c (dM (x0.map eObject)))),(3,.one (.c (.pt 0 0))),(5,.one (.c (.own 1 0 0 (o1_0.length) none))),(6,.one (.c (dB o1_1))),(7,.one (.c (dI ((o1_2:Int)))))],[some (.box [dS x1.Meta.Kind,dS x1.Meta.Namespace,dS x1.Meta.Name,dI x1.Meta.Uid,dI x1.Meta.Version,dI x1.Meta.Generation,dI x1.Meta.Created,dB x1.Meta.Deleting,dI x1.Meta.DeleteAt,dM (x1.Meta.Labels.map eLabel),dM (x1.Meta.Owners.map eOwner),dM (x1.Meta.Finalizers.map eS),dM (x1.Meta.Managers.map eManager),dI x1.Spec.Kind,dI x1.Spec.N,dS x1.Spec.S,dM (x1.Spec.List_.map eTValue),dM (x1.Spec.Fields.map eTField),dI x1.Status.Kind,dI x1.Status.N,dS x1.Status.S,dM (x1.Status.List_.map eTValue),dM (x1.Status.Fields.map eTField)]),some (.arr 0 23 (o1_0.map eObject))]⟩∧F123_l1 x1 (x0.drop o1_2) o1_2 o1_0 o1_1=some o1) (x0.length-0) [some 0,some 1] ⟨0,[],false,⟨hk.1,rfl⟩,rfl,h⟩ ?_
  rintro _ _ ⟨o1_2,o1_0,o1_1,⟨hi,rfl⟩,rfl,h⟩
  refine ww ?_
  refine condS (fun c2=>?_) (fun c2=>?_)
  ·obtain⟨xo1,hxo1,hd⟩:=countY (show(o1_2:Int)<(x0.length:Int)from c2)
   rw[hd,F123_l1]at h
   refine ww ?_
   obtain⟨o3,ho,h⟩:=bi h
   refine cutS (fun s=>s=⟨[(0,.one (.c (dM (x0.map eObject)))),(3,.one (.c (.pt 0 0))),(5,.one (.c (.own 1 0 0 (o3.1.length) none))),(6,.one (.c (dB o3.2))),(7,.one (.c (dI ((o1_2:Int)))))],[some (.box [dS x1.Meta.Kind,dS x1.Meta.Namespace,dS x1.Meta.Name,dI x1.Meta.Uid,dI x1.Meta.Version,dI x1.Meta.Generation,dI x1.Meta.Created,dB x1.Meta.Deleting,dI x1.Meta.DeleteAt,dM (x1.Meta.Labels.map eLabel),dM (x1.Meta.Owners.map eOwner),dM (x1.Meta.Finalizers.map eS),dM (x1.Meta.Managers.map eManager),dI x1.Spec.Kind,dI x1.Spec.N,dS x1.Spec.S,dM (x1.Spec.List_.map eTValue),dM (x1.Spec.Fields.map eTField),dI x1.Status.Kind,dI x1.Status.N,dS x1.Status.S,dM (x1.Status.List_.map eTValue),dM (x1.Status.Fields.map eTField)]),some (.arr 0 23 (o3.1.map eObject))]⟩) ?_ ?_
   ·have h:=ho
    clear ho
    refine ww ?_
    obtain⟨o4,ho,h⟩:=bi h
    refine cutS (fun s=>∃po4,o4=Sum.inr po4∧s=⟨[(0,.one (.c (dM (x0.map eObject)))),(3,.one (.c (.pt 0 0))),(5,.one (.c (.own 1 0 0 (po4.1.length) none))),(6,.one (.c (dB po4.2))),(7,.one (.c (dI ((o1_2:Int)))))],[some (.box [dS x1.Meta.Kind,dS x1.Meta.Namespace,dS x1.Meta.Name,dI x1.Meta.Uid,dI x1.Meta.Version,dI x1.Meta.Generation,dI x1.Meta.Created,dB x1.Meta.Deleting,dI x1.Meta.DeleteAt,dM (x1.Meta.Labels.map eLabel),dM (x1.Meta.Owners.map eOwner),dM (x1.Meta.Finalizers.map eS),dM (x1.Meta.Managers.map eManager),dI x1.Spec.Kind,dI x1.Spec.N,dS x1.Spec.S,dM (x1.Spec.List_.map eTValue),dM (x1.Spec.Fields.map eTField),dI x1.Status.Kind,dI x1.Status.N,dS x1.Status.S,dM (x1.Status.List_.map eTValue),dM (x1.Status.Fields.map eTField)]),some (.arr 0 23 (po4.1.map eObject))]⟩) ?_ ?_
    ·have h0o4:=h
     have h:=ho
     clear ho
     refine ww ?_
     obtain⟨o5,ho,h⟩:=bi h
     refine cutS (fun s=>s=⟨[(0,.one (.c (dM (x0.map eObject)))),(3,.one (.c (.pt 0 0))),(5,.one (.c (.own 1 0 0 (o1_0.length) none))),(6,.one (.c (dB o1_1))),(7,.one (.c (dI ((o1_2:Int))))),(26,.one (.c (dB o5)))],[some (.box [dS x1.Meta.Kind,dS x1.Meta.Namespace,dS x1.Meta.Name,dI x1.Meta.Uid,dI x1.Meta.Version,dI x1.Meta.Generation,dI x1.Meta.Created,dB x1.Meta.Deleting,dI x1.Meta.DeleteAt,dM (x1.Meta.Labels.map eLabel),dM (x1.Meta.Owners.map eOwner),dM (x1.Meta.Finalizers.map eS),dM (x1.Meta.Managers.map eManager),dI x1.Spec.Kind,dI x1.Spec.N,dS x1.Spec.S,dM (x1.Spec.List_.map eTValue),dM (x1.Spec.Fields.map eTField),dI x1.Status.Kind,dI x1.Status.N,dS x1.Status.S,dM (x1.Status.List_.map eTValue),dM (x1.Status.Fields.map eTField)]),some (.arr 0 23 (o1_0.map eObject))]⟩) ?_ ?_
     ·have h:=ho
      clear ho
      refine ww ?_
      refine guardDBh h (fun g6 h=>?_) (fun g6 h=>?_)
      ·refine ww ?_
       refine t_idxF (enc:=eObject) (xs:=x0) rfl rfl hxo1 rfl (ww ?_)
       obtain⟨t7,ht7,h⟩:=bi h
       refine cN [] (F92_ok ht7) trivial (ww ?_)
       obtain⟨t8,ht8,h⟩:=bi h
       refine cN [] (F92_ok ht8) trivial (ww ?_)
       cases h
       exact eM [some 0,some 1] rfl
      refine ww ?_
      cases h
      exact eM [some 0,some 1] rfl
     rintro _ rfl
     clear ho
     refine ww ?_
     refine condBh h (fun c9 h=>?_) (fun c9 h=>?_)
     ·refine ww ?_
      refine t_bslice (enc:=eObject) (ys:=[x1]) rfl rfl (by simp[A1.cells]) (by first|rfl|(simp only[List.drop_zero,take_mapL];rfl)|(simp only[lit,List.map_cons,List.map_nil,List.drop_zero,take_mapL,EE.down];done)|(simp only[lit,List.map_cons,List.map_nil,List.drop_zero,take_mapL,EE.down];rfl)) (ww ?_)
      obtain⟨a10,ha10,h⟩:=bi h
      refine t_app (enc:=eObject) (xs:=o1_0) rfl rfl (by first|rfl|simp only[List.length_set]|exact(clrL_len (slI_len (by assumption))).symm) rfl (rows_full (enc:=eObject) (by first|rfl|simp only[List.length_set]|exact(clrL_len (slI_len (by assumption))).symm) rfl) ha10 (ww ?_)
      refine t_idxF (enc:=eObject) (xs:=x0) rfl rfl hxo1 rfl (ww ?_)
      obtain⟨t11,ht11,h⟩:=bi h
      refine cN [] (F92_ok ht11) trivial (ww ?_)
      obtain⟨t12,ht12,h⟩:=bi h
      refine cN [] (F92_ok ht12) trivial (ww ?_)
      refine condSh h (fun c13 h=>?_) (fun c13 h=>?_)
      ·refine ww ?_
       obtain⟨fh0o4,hfh0o4,rfl⟩:=Option.map_eq_some_iff.1 h
       have h:=hfh0o4.trans h0o4
       cases h
       exact eM [some 0,some 1] rfl
      refine ww ?_
      cases h
      exact eM [some 0,some 1] ⟨_,rfl,rfl⟩
     refine ww ?_
     cases h
     exact eM [some 0,some 1] ⟨_,rfl,rfl⟩
    rintro _ ⟨po4,rfl,rfl⟩
    clear ho
    dsimp only at h
    refine ww ?_
    refine t_idxF (enc:=eObject) (xs:=x0) rfl rfl hxo1 rfl (ww ?_)
    refine t_bslice (enc:=eObject) (ys:=[xo1]) rfl rfl (by simp[A1.cells]) (by first|rfl|(simp only[List.drop_zero,take_mapL];rfl)|(simp only[lit,List.map_cons,List.map_nil,List.drop_zero,take_mapL,EE.down];done)|(simp only[lit,List.map_cons,List.map_nil,List.drop_zero,take_mapL,EE.down];rfl)) (ww ?_)
    obtain⟨a14,ha14,h⟩:=bi h
    refine t_app (enc:=eObject) (xs:=po4.1) rfl rfl (by first|rfl|simp only[List.length_set]|exact(clrL_len (slI_len (by assumption))).symm) rfl (rows_full (enc:=eObject) (by first|rfl|simp only[List.length_set]|exact(clrL_len (slI_len (by assumption))).symm) rfl) ha14 (ww ?_)
    cases h
    exact eM [some 0,some 1] rfl
   rintro _ rfl
   clear ho
   refine ww ?_
   rw[wrapN (by omega)]
   exact eL' (x0.length-(o1_2+1)) [some 0,some 1] ⟨o1_2+1,o3.1,o3.2,⟨by omega,rfl⟩,rfl,h⟩ (by omega)
  rw[countN (show¬((o1_2:Int)<(x0.length:Int))from c2),F123_l1]at h
  refine ww ?_
  cases h
  exact eM [some 0,some 1] rfl
 rintro _ rfl
 clear ho
 refine ww ?_
 refine condBh h (fun c16 h=>?_) (fun c16 h=>?_)
 ·refine ww ?_
  refine t_bslice (enc:=eObject) (ys:=[x1]) rfl rfl (by simp[A1.cells]) (by first|rfl|(simp only[List.drop_zero,take_mapL];rfl)|(simp only[lit,List.map_cons,List.map_nil,List.drop_zero,take_mapL,EE.down];done)|(simp only[lit,List.map_cons,List.map_nil,List.drop_zero,take_mapL,EE.down];rfl)) (ww ?_)
  obtain⟨a17,ha17,h⟩:=bi h
  refine t_app (enc:=eObject) (xs:=o1.1) rfl rfl (by first|rfl|simp only[List.length_set]|exact(clrL_len (slI_len (by assumption))).symm) rfl (rows_full (enc:=eObject) (by first|rfl|simp only[List.length_set]|exact(clrL_len (slI_len (by assumption))).symm) rfl) ha17 (ww ?_)
  cases h
  exact eF [some 1]
 refine ww ?_
 cases h
 exact eF [some 1]
def F141(x0:Object)(x1:ByteArray):Option (Int):=(F33 x0.Meta).bind fun t1=>(F142 t1 x1).bind fun t2=>some t2
def a141:AFn:=⟨10,[(.tmp 4)],
 (.seq (.reg [sq 2 (.box (.t 0)),
sq 4 (.mv (kI 0))])
 (.seq (.reg [sq 5 (.fieldA 0 (.t 2)),
sq 6 (.load (some 13) (.t 5)),
sq 7 (.call 33 [(.t 6)]),
sq 8 (.mv (.t 1)),
sq 9 (.call 142 [(.t 7),(.t 8)]),
sq 4 (.mv (.t 9))])
 .ret))⟩
theorem F141_ok{x0 x1 r}(h:F141 x0 x1=some r):CallD Tryz.prog 141 [.agg [dS x0.Meta.Kind,dS x0.Meta.Namespace,dS x0.Meta.Name,dI x0.Meta.Uid,dI x0.Meta.Version,dI x0.Meta.Generation,dI x0.Meta.Created,dB x0.Meta.Deleting,dI x0.Meta.DeleteAt,dM (x0.Meta.Labels.map eLabel),dM (x0.Meta.Owners.map eOwner),dM (x0.Meta.Finalizers.map eS),dM (x0.Meta.Managers.map eManager),dI x0.Spec.Kind,dI x0.Spec.N,dS x0.Spec.S,dM (x0.Spec.List_.map eTValue),dM (x0.Spec.Fields.map eTField),dI x0.Status.Kind,dI x0.Status.N,dS x0.Status.S,dM (x0.Status.List_.map eTValue),dM (x0.Status.Fields.map eTField)],.c (dS x1)] [] (tupV [.c (dI r)]) []:=by
 rw[F141]at h
 refine zc a141 (by kernel_rfl) rfl (ww ?_)
 obtain⟨t1,ht1,h⟩:=bi h
 refine cN [] (F33_ok ht1) trivial (ww ?_)
 obtain⟨t2,ht2,h⟩:=bi h
 refine cN [] (F142_ok ht2) trivial (ww ?_)
 cases h
 exact eF []
def F146(x0:TValue):Option (TValue):=(F118 ([x0])).bind fun t1=>(rdI t1.1 0).bind fun y2=>some y2
def a146:AFn:=⟨9,[(.cell 2 (some 5))],
 (.seq (.reg [sq 1 (.box (.t 0)),
sq 2 (.zbox [dI 0,dI 0,dS ⟨#[]⟩,dN,dN])])
 (.seq (.reg [sq 3 (.load (some 5) (.t 1)),
sq 4 (.bslice 5 [(.t 3)]),
sq 5 (.call 118 [(.t 4)]),
sq 6 (.field 3 none (.t 5)),
sq 7 (.indexA 5 (.t 6) (kI 0)),
sq 8 (.load (some 5) (.t 7)),
su (.store 5 (.t 2) (.t 8))])
 .ret))⟩
theorem F146_ok{x0 r}(h:F146 x0=some r):CallD Tryz.prog 146 [.agg [dI x0.Kind,dI x0.N,dS x0.S,dM (x0.List_.map eTValue),dM (x0.Fields.map eTField)]] [] (tupV [.agg [dI ((r).Kind),dI ((r).N),dS ((r).S),dM (((r).List_).map eTValue),dM (((r).Fields).map eTField)]]) []:=by
 rw[F146]at h
 refine zc a146 (by kernel_rfl) rfl (ww ?_)
 refine t_bslice (enc:=eTValue) (ys:=[x0]) rfl rfl (by simp[A1.cells]) (by first|rfl|(simp only[List.drop_zero,take_mapL];rfl)|(simp only[lit,List.map_cons,List.map_nil,List.drop_zero,take_mapL,EE.down];done)|(simp only[lit,List.map_cons,List.map_nil,List.drop_zero,take_mapL,EE.down];rfl)) (ww ?_)
 obtain⟨t1,ht1,h⟩:=bi h
 refine callX_gen (as1:=[.c (dM (([x0]).map eTValue))]) [(2,.arr 1 5 [])] [some 0,some 1,none] [] (F118_ok ht1) ⟨?_,rfl,?_⟩ ?_ ?_ ?_ ?_ ?_ ?_ ?_ ?_
 ·simp only[ZZ.down,Nat.reduceEqDiff,reduceCtorEq,Nat.reduceAdd,Nat.reduceLeDiff,Nat.reduceLT,Nat.reduceBNe,EE.down]
 ·simp only[ZZ.down,Nat.reduceEqDiff,reduceCtorEq,Nat.reduceAdd,Nat.reduceLeDiff,Nat.reduceLT,Nat.reduceBNe,EE.down]
 ·simp only[ZZ.down,Nat.reduceEqDiff,reduceCtorEq,Nat.reduceAdd,Nat.reduceLeDiff,Nat.reduceLT,Nat.reduceBNe,EE.down]
 ·rfl
 ·rfl
 ·simp[liveAll,A1.live,C.live]
 ·rfl
 ·decide
 ·exact trivial
 refine ww ?_
 obtain⟨y2,hy2,h⟩:=bi h
 refine t_idxO (enc:=eTValue) (xs:=t1.1) rfl rfl rfl (by first|rfl|simp only[List.length_set]|exact(clrL_len (slI_len (by assumption))).symm) hy2 (ww ?_)
 refine LdRow.rd (rdI_some hy2).2.1 (ww ?_)
 cases h
 exact eF []
def F117_l1(x1:(List Label)):List Requirement→Nat→Option ((Bool) ⊕ (Unit))
 |[],o1_0=>some (Sum.inr (()))
 |xo1::xs,o1_0=>(F157 xo1 x1).bind fun t3=>(if(nb t3)=true then(some false).map Sum.inl else F117_l1 x1 xs (o1_0+1))
def F117(x0:(List Requirement))(x1:(List Label)):Option (Bool):=(((ck (0≤x0.length∧x0.length≤4294967290)).bind fun u5=>F117_l1 x1 x0 0:Option ((Bool) ⊕ (Unit))).bind fun o1=>match o1 with|Sum.inl f=>some f|Sum.inr po1=>some true)
def a117:AFn:=⟨18,[(.tmp 4)],
 (.seq (.reg [sq 4 (.mv (kB false))])
 (.seq (.seq (.reg [sq 7 (.mv (.t 0)),
sq 8 (.len (.t 7)),
sq 9 (.mv (kI 0))])
 (.sem (.block 0 (.loop (.seq (.reg [sq 10 (.bin .lss (.t 9) (.t 8))])
 (.seq (.cond (.t 10)
 .skip
 (.exit 0))
 (.seq (.block 1 (.seq (.reg [sq 11 (.indexA 3 (.t 7) (.t 9)),
sq 12 (.load (some 3) (.t 11)),
sq 6 (.zbox [dS ⟨#[]⟩,dI 0,dN]),
su (.store 3 (.t 6) (.t 12))])
 (.seq (.reg [sq 13 (.load (some 3) (.t 6)),
sq 14 (.mv (.t 1)),
sq 15 (.call 157 [(.t 13),(.t 14)]),
sq 16 (.not (.t 15))])
 (.cond (.t 16)
 (.seq (.reg [sq 4 (.mv (kB false))])
 .ret)
 .skip))))
 (.reg [sq 17 (.bin .add (.t 9) (kI 1)),
sq 9 (.mv (.t 17))]))))))))
 (.seq (.reg [sq 4 (.mv (kB true))])
 .ret)))⟩
theorem F117_ok{x0 x1 r}(h:F117 x0 x1=some r):CallD Tryz.prog 117 [.c (dM (x0.map eRequirement)),.c (dM (x1.map eLabel))] [] (tupV [.c (dB r)]) []:=by
 rw[F117]at h
 refine zc a117 (by kernel_rfl) rfl (ww ?_)
 obtain⟨o1,ho,h⟩:=bi h
 refine cutS (fun s=>∃po1,o1=Sum.inr po1∧s=⟨[],[]⟩) ?_ ?_
 ·have h0o1:=h
  have h:=ho
  clear ho
  obtain⟨_,hk,h⟩:=bi h
  have hk:=ck_some hk
  refine ww ?_
  refine bL (fun j s=>∃(o1_0:Nat),(o1_0≤x0.length∧j=x0.length-o1_0)∧s=⟨[(1,.one (.c (dM (x1.map eLabel)))),(7,.one (.c (dM (x0.map eRequirement)))),(8,.one (.c (dI ((x0.length:Int))))),(9,.one (.c (dI ((o1_0:Int)))))],[]⟩∧F117_l1 x1 (x0.drop o1_0) o1_0=some o1) (x0.length-0) [] ⟨0,⟨hk.1,rfl⟩,rfl,h⟩ ?_
  rintro _ _ ⟨o1_0,⟨hi,rfl⟩,rfl,h⟩
  refine ww ?_
  refine condS (fun c2=>?_) (fun c2=>?_)
  ·obtain⟨xo1,hxo1,hd⟩:=countY (show(o1_0:Int)<(x0.length:Int)from c2)
   rw[hd,F117_l1]at h
   refine ww ?_
   refine t_idxF (enc:=eRequirement) (xs:=x0) rfl rfl hxo1 rfl (ww ?_)
   obtain⟨t3,ht3,h⟩:=bi h
   refine cN [] (F157_ok ht3) trivial (ww ?_)
   refine condBh h (fun c4 h=>?_) (fun c4 h=>?_)
   ·refine ww ?_
    obtain⟨fh0o1,hfh0o1,rfl⟩:=Option.map_eq_some_iff.1 h
    have h:=hfh0o1.trans h0o1
    cases h
    exact eF []
   refine ww ?_
   rw[wrapN (by omega)]
   exact eL' (x0.length-(o1_0+1)) [] ⟨o1_0+1,⟨by omega,rfl⟩,rfl,h⟩ (by omega)
  rw[countN (show¬((o1_0:Int)<(x0.length:Int))from c2),F117_l1]at h
  refine ww ?_
  cases h
  exact eM [] ⟨_,rfl,rfl⟩
 rintro _ ⟨po1,rfl,rfl⟩
 clear ho
 dsimp only at h
 refine ww ?_
 cases h
 exact eF []
def F86_l5:List Manager→Nat→(List Manager)→Option ((List Manager))
 |[],o5_1,o5_0=>some o5_0
 |xo5::xs,o5_1,o5_0=>(rdI o5_0 ((o5_1:Int))).bind fun y7=>(cloneI y7.Fields).bind fun t8=>(rdI o5_0 ((o5_1:Int))).bind fun y9=>F86_l5 xs (o5_1+1) ((o5_0.set ((o5_1:Int)).toNat ((⟨y9.Name,t8⟩:Manager))))
def F86(x0:Object):Option ((List Label)×(List Owner)×(List ByteArray)×(List Manager)×Int×Int×ByteArray×((List TValue))×((List TField))×Int×Int×ByteArray×((List TValue))×((List TField))):=(cloneI x0.Meta.Labels).bind fun t1=>(cloneI x0.Meta.Owners).bind fun t2=>(cloneI x0.Meta.Finalizers).bind fun t3=>(cloneI x0.Meta.Managers).bind fun t4=>(((ck (0≤t4.length∧t4.length≤4294967290)).bind fun u10=>F86_l5 t4 0 t4).bind fun o5=>(F118 ([x0.Spec,x0.Status])).bind fun t11=>(rdI t11.1 0).bind fun y12=>(rdI t11.1 1).bind fun y13=>some ((t1,t2,t3,o5,y12.Kind,y12.N,y12.S,y12.List_,y12.Fields,y13.Kind,y13.N,y13.S,y13.List_,y13.Fields)))
def a86:AFn:=⟨65,[(.cell 2 (some 23))],
 (.seq (.reg [sq 1 (.box (.t 0)),
sq 2 (.zbox [dS ⟨#[]⟩,dS ⟨#[]⟩,dS ⟨#[]⟩,dI 0,dI 0,dI 0,dI 0,dB false,dI 0,dN,dN,dN,dN,dI 0,dI 0,dS ⟨#[]⟩,dN,dN,dI 0,dI 0,dS ⟨#[]⟩,dN,dN])])
 (.seq (.reg [sq 6 (.fieldA 0 (.t 1)),
sq 7 (.fieldA 9 (.t 6)),
sq 8 (.load none (.t 7)),
sq 9 (.call 65 [(.t 8)]),
sq 10 (.fieldA 0 (.t 1)),
sq 11 (.fieldA 9 (.t 10)),
su (.store 1 (.t 11) (.t 9))])
 (.seq (.reg [sq 12 (.fieldA 0 (.t 1)),
sq 13 (.fieldA 10 (.t 12)),
sq 14 (.load none (.t 13)),
sq 15 (.call 66 [(.t 14)]),
sq 16 (.fieldA 0 (.t 1)),
sq 17 (.fieldA 10 (.t 16)),
su (.store 1 (.t 17) (.t 15))])
 (.seq (.reg [sq 18 (.fieldA 0 (.t 1)),
sq 19 (.fieldA 11 (.t 18)),
sq 20 (.load none (.t 19)),
sq 21 (.call 61 [(.t 20)]),
sq 22 (.fieldA 0 (.t 1)),
sq 23 (.fieldA 11 (.t 22)),
su (.store 1 (.t 23) (.t 21))])
 (.seq (.reg [sq 24 (.fieldA 0 (.t 1)),
sq 25 (.fieldA 12 (.t 24)),
sq 26 (.load none (.t 25)),
sq 27 (.call 67 [(.t 26)]),
sq 28 (.fieldA 0 (.t 1)),
sq 29 (.fieldA 12 (.t 28)),
su (.store 1 (.t 29) (.t 27))])
 (.seq (.seq (.reg [sq 30 (.fieldA 0 (.t 1)),
sq 31 (.fieldA 12 (.t 30)),
sq 32 (.load none (.t 31)),
sq 33 (.len (.t 32)),
sq 34 (.mv (kI 0))])
 (.sem (.block 0 (.loop (.seq (.reg [sq 35 (.bin .lss (.t 34) (.t 33))])
 (.seq (.cond (.t 35)
 .skip
 (.exit 0))
 (.seq (.block 1 (.seq (.reg [sq 36 (.mv (.t 34)),
sq 37 (.indexA 2 (.t 32) (.t 34)),
sq 38 (.load (some 2) (.t 37)),
sq 4 (.zbox [dS ⟨#[]⟩,dN]),
sq 3 (.mv (.t 36)),
su (.store 2 (.t 4) (.t 38))])
 (.regd [sq 39 (.fieldA 0 (.t 1)),
sd 40 (.fieldA 12 (.t 39)) [0],
sd 41 (.load none (.t 40)) [0,1],
sq 42 (.mv (.t 3)),
sq 43 (.fieldA 1 (.t 4)),
sd 44 (.load none (.t 43)) [4],
zl 45 (.call 61 [(.t 44)]) [4,5] [1,39,40],
sd 46 (.indexA 2 (.t 41) (.t 42)) [0,1,2,3,4,5,6],
sd 47 (.fieldA 1 (.t 46)) [0,1,2,3,4,5,6,7],
⟨none,none,.store 1 (.t 47) (.t 45),[0,1,2,3,4,5,6,7,8],(.lone [])⟩])))
 (.reg [sq 48 (.bin .add (.t 34) (kI 1)),
sq 34 (.mv (.t 48))]))))))))
 (.seq (.reg [sq 49 (.fieldA 13 (.t 1)),
sq 50 (.load (some 5) (.t 49)),
sq 51 (.fieldA 18 (.t 1)),
sq 52 (.load (some 5) (.t 51)),
sq 53 (.bslice 5 [(.t 50),(.t 52)]),
sq 54 (.call 118 [(.t 53)]),
sq 55 (.field 3 none (.t 54)),
sq 5 (.mv (.t 55))])
 (.seq (.regd [sq 56 (.mv (.t 5)),
sd 57 (.indexA 5 (.t 56) (kI 0)) [0],
sd 58 (.load (some 5) (.t 57)) [0,1],
sq 59 (.mv (.t 5)),
sd 60 (.indexA 5 (.t 59) (kI 1)) [3],
sd 61 (.load (some 5) (.t 60)) [3,4],
sd 62 (.fieldA 13 (.t 1)) [0,1,2],
⟨none,none,.store 5 (.t 62) (.t 58),[0,1,2,6],(.lone [59,60])⟩,
sd 63 (.fieldA 18 (.t 1)) [0,1,2,3,4,5,6,7],
⟨none,none,.store 5 (.t 63) (.t 61),[0,1,2,3,4,5,6,7,8],(.lone [])⟩])
 (.seq (.reg [sq 64 (.load (some 23) (.t 1)),
⟨none,none,.store 23 (.t 2) (.t 64),[],(.lone [1])⟩])
 .ret)))))))))⟩
theorem F86_ok{x0 r}(h:F86 x0=some r):CallD Tryz.prog 86 [.agg [dS x0.Meta.Kind,dS x0.Meta.Namespace,dS x0.Meta.Name,dI x0.Meta.Uid,dI x0.Meta.Version,dI x0.Meta.Generation,dI x0.Meta.Created,dB x0.Meta.Deleting,dI x0.Meta.DeleteAt,dM (x0.Meta.Labels.map eLabel),dM (x0.Meta.Owners.map eOwner),dM (x0.Meta.Finalizers.map eS),dM (x0.Meta.Managers.map eManager),dI x0.Spec.Kind,dI x0.Spec.N,dS x0.Spec.S,dM (x0.Spec.List_.map eTValue),dM (x0.Spec.Fields.map eTField),dI x0.Status.Kind,dI x0.Status.N,dS x0.Status.S,dM (x0.Status.List_.map eTValue),dM (x0.Status.Fields.map eTField)]] [] (tupV [.agg [dS x0.Meta.Kind,dS x0.Meta.Namespace,dS x0.Meta.Name,dI x0.Meta.Uid,dI x0.Meta.Version,dI x0.Meta.Generation,dI x0.Meta.Created,dB x0.Meta.Deleting,dI x0.Meta.DeleteAt,.own 0 0 0 (r.1.length) none,.own 1 0 0 (r.2.1.length) none,.own 2 0 0 (r.2.2.1.length) none,.own 3 0 0 (r.2.2.2.1.length) none,dI r.2.2.2.2.1,dI r.2.2.2.2.2.1,dS r.2.2.2.2.2.2.1,dM (r.2.2.2.2.2.2.2.1.map eTValue),dM (r.2.2.2.2.2.2.2.2.1.map eTField),dI r.2.2.2.2.2.2.2.2.2.1,dI r.2.2.2.2.2.2.2.2.2.2.1,dS r.2.2.2.2.2.2.2.2.2.2.2.1,dM (r.2.2.2.2.2.2.2.2.2.2.2.2.1.map eTValue),dM (r.2.2.2.2.2.2.2.2.2.2.2.2.2.map eTField)]]) [some (.arr 0 2 (r.1.map eLabel)),some (.arr 0 5 (r.2.1.map eOwner)),some (.arr 0 1 (r.2.2.1.map eS)),some (.arr 0 2 (r.2.2.2.1.map eManager))]:=by
 rw[F86]at h
 refine zc a86 (by kernel_rfl) rfl (ww ?_)
 obtain⟨t1,ht1,h⟩:=bi h
 refine cN [] (F65_ok ht1) trivial (ww ?_)
 obtain⟨t2,ht2,h⟩:=bi h
 refine cN [] (F66_ok ht2) trivial (ww ?_)
 obtain⟨t3,ht3,h⟩:=bi h
 refine cN [] (F61_ok ht3) trivial (ww ?_)
 obtain⟨t4,ht4,h⟩:=bi h
 refine cN [] (F67_ok ht4) trivial (ww ?_)
 obtain⟨o5,ho,h⟩:=bi h
 refine cutS (fun s=>s=⟨[(1,.one (.c (.pt 0 0))),(2,.one (.c (.pt 5 0)))],[some (.box [dS x0.Meta.Kind,dS x0.Meta.Namespace,dS x0.Meta.Name,dI x0.Meta.Uid,dI x0.Meta.Version,dI x0.Meta.Generation,dI x0.Meta.Created,dB x0.Meta.Deleting,dI x0.Meta.DeleteAt,.own 1 0 0 (t1.length) none,.own 2 0 0 (t2.length) none,.own 3 0 0 (t3.length) none,.own 4 0 0 (o5.length) none,dI x0.Spec.Kind,dI x0.Spec.N,dS x0.Spec.S,dM (x0.Spec.List_.map eTValue),dM (x0.Spec.Fields.map eTField),dI x0.Status.Kind,dI x0.Status.N,dS x0.Status.S,dM (x0.Status.List_.map eTValue),dM (x0.Status.Fields.map eTField)]),some (.arr 0 2 (t1.map eLabel)),some (.arr 0 5 (t2.map eOwner)),some (.arr 0 1 (t3.map eS)),some (.arr 0 2 (o5.map eManager)),some (.box [dS ((⟨#[]⟩:ByteArray)),dS ((⟨#[]⟩:ByteArray)),dS ((⟨#[]⟩:ByteArray)),dI 0,dI 0,dI 0,dI 0,dB false,dI 0,dN,dN,dN,dN,dI 0,dI 0,dS ((⟨#[]⟩:ByteArray)),dN,dN,dI 0,dI 0,dS ((⟨#[]⟩:ByteArray)),dN,dN])]⟩) ?_ ?_
 ·have h:=ho
  clear ho
  obtain⟨_,hk,h⟩:=bi h
  have hk:=ck_some hk
  refine ww ?_
  refine bL (fun j s=>∃(o5_1:Nat) (o5_0:List Manager),(o5_1≤t4.length∧j=t4.length-o5_1)∧s=⟨[(1,.one (.c (.pt 0 0))),(2,.one (.c (.pt 5 0))),(32,.one (.c (.own 4 0 0 (o5_0.length) none))),(33,.one (.c (dI ((t4.length:Int))))),(34,.one (.c (dI ((o5_1:Int)))))],[some (.box [dS x0.Meta.Kind,dS x0.Meta.Namespace,dS x0.Meta.Name,dI x0.Meta.Uid,dI x0.Meta.Version,dI x0.Meta.Generation,dI x0.Meta.Created,dB x0.Meta.Deleting,dI x0.Meta.DeleteAt,.own 1 0 0 (t1.length) none,.own 2 0 0 (t2.length) none,.own 3 0 0 (t3.length) none,.own 4 0 0 (o5_0.length) none,dI x0.Spec.Kind,dI x0.Spec.N,dS x0.Spec.S,dM (x0.Spec.List_.map eTValue),dM (x0.Spec.Fields.map eTField),dI x0.Status.Kind,dI x0.Status.N,dS x0.Status.S,dM (x0.Status.List_.map eTValue),dM (x0.Status.Fields.map eTField)]),some (.arr 0 2 (t1.map eLabel)),some (.arr 0 5 (t2.map eOwner)),some (.arr 0 1 (t3.map eS)),some (.arr 0 2 (o5_0.map eManager)),some (.box [dS ((⟨#[]⟩:ByteArray)),dS ((⟨#[]⟩:ByteArray)),dS ((⟨#[]⟩:ByteArray)),dI 0,dI 0,dI 0,dI 0,dB false,dI 0,dN,dN,dN,dN,dI 0,dI 0,dS ((⟨#[]⟩:ByteArray)),dN,dN,dI 0,dI 0,dS ((⟨#[]⟩:ByteArray)),dN,dN])]⟩∧F86_l5 (t4.drop o5_1) o5_1 o5_0=some o5) (t4.length-0) [some 0,some 2,some 3,some 4,some 5,some 1] ⟨0,t4,⟨hk.1,rfl⟩,rfl,h⟩ ?_
  rintro _ _ ⟨o5_1,o5_0,⟨hi,rfl⟩,rfl,h⟩
  refine ww ?_
  refine condS (fun c6=>?_) (fun c6=>?_)
  ·obtain⟨xo5,hxo5,hd⟩:=countY (show(o5_1:Int)<(t4.length:Int)from c6)
   rw[hd,F86_l5]at h
   refine ww ?_
   obtain⟨y7,hy7,h⟩:=bi h
   refine t_idxO (enc:=eManager) (xs:=o5_0) rfl rfl rfl (by first|rfl|simp only[List.length_set]|exact(clrL_len (slI_len (by assumption))).symm) hy7 (ww ?_)
   refine LdRow.rd (rdI_some hy7).2.1 (ww ?_)
   obtain⟨t8,ht8,h⟩:=bi h
   refine cN [] (F61_ok ht8) trivial (ww ?_)
   obtain⟨y9,hy9,h⟩:=bi h
   refine t_idxO (enc:=eManager) (xs:=o5_0) rfl rfl rfl (by first|rfl|simp only[List.length_set]|exact(clrL_len (slI_len (by assumption))).symm) hy9 (ww ?_)
   refine StRow.rd (y':=(⟨y9.Name,t8⟩:Manager)) (rdI_some hy9).2.1 (by simp[EE.down]) (by first|rfl|(simp only[bor_full'];rfl)) (ww ?_)
   rw[wrapN (by omega)]
   exact eL' (t4.length-(o5_1+1)) [some 0,some 1,some 2,some 3,some 4,some 5] ⟨o5_1+1,(o5_0.set ((o5_1:Int)).toNat ((⟨y9.Name,t8⟩:Manager))),⟨by omega,rfl⟩,rfl,h⟩ (by omega)
  rw[countN (show¬((o5_1:Int)<(t4.length:Int))from c6),F86_l5]at h
  refine ww ?_
  cases h
  exact eM [some 0,some 1,some 2,some 3,some 4,some 5] rfl
 rintro _ rfl
 clear ho
 refine ww ?_
 refine t_bslice (enc:=eTValue) (ys:=[x0.Spec,x0.Status]) rfl rfl (by simp[A1.cells]) (by first|rfl|(simp only[List.drop_zero,take_mapL];rfl)|(simp only[lit,List.map_cons,List.map_nil,List.drop_zero,take_mapL,EE.down];done)|(simp only[lit,List.map_cons,List.map_nil,List.drop_zero,take_mapL,EE.down];rfl)) (ww ?_)
 obtain⟨t11,ht11,h⟩:=bi h
 refine callX_gen (as1:=[.c (dM (([x0.Spec,x0.Status]).map eTValue))]) [(6,.arr 1 5 [])] [some 0,some 1,some 2,some 3,some 4,some 5,none] [] (F118_ok ht11) ⟨?_,rfl,?_⟩ ?_ ?_ ?_ ?_ ?_ ?_ ?_ ?_
 ·simp only[ZZ.down,Nat.reduceEqDiff,reduceCtorEq,Nat.reduceAdd,Nat.reduceLeDiff,Nat.reduceLT,Nat.reduceBNe,EE.down]
 ·simp only[ZZ.down,Nat.reduceEqDiff,reduceCtorEq,Nat.reduceAdd,Nat.reduceLeDiff,Nat.reduceLT,Nat.reduceBNe,EE.down]
 ·simp only[ZZ.down,Nat.reduceEqDiff,reduceCtorEq,Nat.reduceAdd,Nat.reduceLeDiff,Nat.reduceLT,Nat.reduceBNe,EE.down]
 ·rfl
 ·rfl
 ·simp[liveAll,A1.live,C.live]
 ·rfl
 ·decide
 ·exact trivial
 refine ww ?_
 obtain⟨y12,hy12,h⟩:=bi h
 refine t_idxO (enc:=eTValue) (xs:=t11.1) rfl rfl rfl (by first|rfl|simp only[List.length_set]|exact(clrL_len (slI_len (by assumption))).symm) hy12 (ww ?_)
 refine LdRow.rd (rdI_some hy12).2.1 (ww ?_)
 obtain⟨y13,hy13,h⟩:=bi h
 refine t_idxO (enc:=eTValue) (xs:=t11.1) rfl rfl rfl (by first|rfl|simp only[List.length_set]|exact(clrL_len (slI_len (by assumption))).symm) hy13 (ww ?_)
 refine LdRow.rd (rdI_some hy13).2.1 (ww ?_)
 cases h
 exact eF [some 1,some 2,some 3,some 4]
def F13_l1(x1:ByteArray):List Object→Nat→Option ((ByteArray×ByteArray×ByteArray×Int×Int×Int×Int×Bool×Int×(List Label)×(List Owner)×(List ByteArray)×(List Manager)×Int×Int×ByteArray×(List TValue)×(List TField)×Int×Int×ByteArray×(List TValue)×(List TField)×Bool) ⊕ (Unit))
 |[],o1_0=>some (Sum.inr (()))
 |xo1::xs,o1_0=>(F33 xo1.Meta).bind fun t3=>(if t3=x1 then(F37 xo1).bind fun t5=>(some ((xo1.Meta.Kind,xo1.Meta.Namespace,xo1.Meta.Name,xo1.Meta.Uid,xo1.Meta.Version,xo1.Meta.Generation,xo1.Meta.Created,xo1.Meta.Deleting,xo1.Meta.DeleteAt,t5.1,t5.2.1,t5.2.2.1,t5.2.2.2.1,xo1.Spec.Kind,xo1.Spec.N,xo1.Spec.S,t5.2.2.2.2.1,t5.2.2.2.2.2.1,xo1.Status.Kind,xo1.Status.N,xo1.Status.S,t5.2.2.2.2.2.2.1,t5.2.2.2.2.2.2.2,true))).map Sum.inl else F13_l1 x1 xs (o1_0+1))
def F13(x0:Cache)(x1:ByteArray):Option (ByteArray×ByteArray×ByteArray×Int×Int×Int×Int×Bool×Int×(List Label)×(List Owner)×(List ByteArray)×(List Manager)×Int×Int×ByteArray×(List TValue)×(List TField)×Int×Int×ByteArray×(List TValue)×(List TField)×Bool):=(((ck (0≤x0.Objects.length∧x0.Objects.length≤4294967290)).bind fun u6=>F13_l1 x1 x0.Objects 0:Option ((ByteArray×ByteArray×ByteArray×Int×Int×Int×Int×Bool×Int×(List Label)×(List Owner)×(List ByteArray)×(List Manager)×Int×Int×ByteArray×(List TValue)×(List TField)×Int×Int×ByteArray×(List TValue)×(List TField)×Bool) ⊕ (Unit))).bind fun o1=>match o1 with|Sum.inl f=>some f|Sum.inr po1=>some (((⟨#[]⟩:ByteArray),(⟨#[]⟩:ByteArray),(⟨#[]⟩:ByteArray),0,0,0,0,false,0,[],[],[],[],0,0,(⟨#[]⟩:ByteArray),[],[],0,0,(⟨#[]⟩:ByteArray),[],[],false)))
def a13:AFn:=⟨24,[(.cell 4 (some 23)),(.tmp 5)],
 (.seq (.reg [sq 2 (.box (.t 0)),
sq 4 (.zbox [dS ⟨#[]⟩,dS ⟨#[]⟩,dS ⟨#[]⟩,dI 0,dI 0,dI 0,dI 0,dB false,dI 0,dN,dN,dN,dN,dI 0,dI 0,dS ⟨#[]⟩,dN,dN,dI 0,dI 0,dS ⟨#[]⟩,dN,dN]),
sq 5 (.mv (kB false))])
 (.seq (.seq (.reg [sq 8 (.fieldA 5 (.t 2)),
sq 9 (.load none (.t 8)),
sq 10 (.len (.t 9)),
sq 11 (.mv (kI 0))])
 (.sem (.block 0 (.loop (.seq (.reg [sq 12 (.bin .lss (.t 11) (.t 10))])
 (.seq (.cond (.t 12)
 .skip
 (.exit 0))
 (.seq (.block 1 (.seq (.reg [sq 13 (.indexA 23 (.t 9) (.t 11)),
sq 14 (.load (some 23) (.t 13)),
sq 7 (.zbox [dS ⟨#[]⟩,dS ⟨#[]⟩,dS ⟨#[]⟩,dI 0,dI 0,dI 0,dI 0,dB false,dI 0,dN,dN,dN,dN,dI 0,dI 0,dS ⟨#[]⟩,dN,dN,dI 0,dI 0,dS ⟨#[]⟩,dN,dN]),
su (.store 23 (.t 7) (.t 14))])
 (.seq (.reg [sq 15 (.fieldA 0 (.t 7)),
sq 16 (.load (some 13) (.t 15)),
sq 17 (.call 33 [(.t 16)]),
sq 18 (.mv (.t 1)),
sq 19 (.bin .eql (.t 17) (.t 18))])
 (.cond (.t 19)
 (.seq (.reg [sq 20 (.load (some 23) (.t 7)),
sq 21 (.call 37 [(.t 20)]),
su (.store 23 (.t 4) (.t 21)),
sq 5 (.mv (kB true))])
 .ret)
 .skip))))
 (.reg [sq 22 (.bin .add (.t 11) (kI 1)),
sq 11 (.mv (.t 22))]))))))))
 (.seq (.reg [sq 23 (.build [dS ⟨#[]⟩,dS ⟨#[]⟩,dS ⟨#[]⟩,dI 0,dI 0,dI 0,dI 0,dB false,dI 0,dN,dN,dN,dN,dI 0,dI 0,dS ⟨#[]⟩,dN,dN,dI 0,dI 0,dS ⟨#[]⟩,dN,dN] []),
su (.store 23 (.t 4) (.t 23)),
sq 5 (.mv (kB false))])
 .ret)))⟩
theorem F13_ok{x0 x1 r}(h:F13 x0 x1=some r):CallD Tryz.prog 13 [.agg [dS x0.Filter.Kind,dS x0.Filter.Namespace,dM (x0.Filter.Selector.map eRequirement),dI x0.Rev,dB x0.Synced,dM (x0.Objects.map eObject)],.c (dS x1)] [] (tupV [.agg [dS r.1,dS r.2.1,dS r.2.2.1,dI r.2.2.2.1,dI r.2.2.2.2.1,dI r.2.2.2.2.2.1,dI r.2.2.2.2.2.2.1,dB r.2.2.2.2.2.2.2.1,dI r.2.2.2.2.2.2.2.2.1,.own 0 0 0 (r.2.2.2.2.2.2.2.2.2.1.length) none,.own 1 0 0 (r.2.2.2.2.2.2.2.2.2.2.1.length) none,.own 2 0 0 (r.2.2.2.2.2.2.2.2.2.2.2.1.length) none,.own 3 0 0 (r.2.2.2.2.2.2.2.2.2.2.2.2.1.length) none,dI r.2.2.2.2.2.2.2.2.2.2.2.2.2.1,dI r.2.2.2.2.2.2.2.2.2.2.2.2.2.2.1,dS r.2.2.2.2.2.2.2.2.2.2.2.2.2.2.2.1,.own 4 0 0 (r.2.2.2.2.2.2.2.2.2.2.2.2.2.2.2.2.1.length) none,.own 5 0 0 (r.2.2.2.2.2.2.2.2.2.2.2.2.2.2.2.2.2.1.length) none,dI r.2.2.2.2.2.2.2.2.2.2.2.2.2.2.2.2.2.2.1,dI r.2.2.2.2.2.2.2.2.2.2.2.2.2.2.2.2.2.2.2.1,dS r.2.2.2.2.2.2.2.2.2.2.2.2.2.2.2.2.2.2.2.2.1,.own 6 0 0 (r.2.2.2.2.2.2.2.2.2.2.2.2.2.2.2.2.2.2.2.2.2.1.length) none,.own 7 0 0 (r.2.2.2.2.2.2.2.2.2.2.2.2.2.2.2.2.2.2.2.2.2.2.1.length) none],.c (dB r.2.2.2.2.2.2.2.2.2.2.2.2.2.2.2.2.2.2.2.2.2.2.2)]) [some (.arr 0 2 (r.2.2.2.2.2.2.2.2.2.1.map eLabel)),some (.arr 0 5 (r.2.2.2.2.2.2.2.2.2.2.1.map eOwner)),some (.arr 0 1 (r.2.2.2.2.2.2.2.2.2.2.2.1.map eS)),some (.arr 0 2 (r.2.2.2.2.2.2.2.2.2.2.2.2.1.map eManager)),some (.arr 0 5 (r.2.2.2.2.2.2.2.2.2.2.2.2.2.2.2.2.1.map eTValue)),some (.arr 0 6 (r.2.2.2.2.2.2.2.2.2.2.2.2.2.2.2.2.2.1.map eTField)),some (.arr 0 5 (r.2.2.2.2.2.2.2.2.2.2.2.2.2.2.2.2.2.2.2.2.2.1.map eTValue)),some (.arr 0 6 (r.2.2.2.2.2.2.2.2.2.2.2.2.2.2.2.2.2.2.2.2.2.2.1.map eTField))]:=by
 rw[F13]at h
 refine zc a13 (by kernel_rfl) rfl (ww ?_)
 obtain⟨o1,ho,h⟩:=bi h
 refine cutS (fun s=>∃po1,o1=Sum.inr po1∧s=⟨[(4,.one (.c (.pt 0 0)))],[some (.box [dS ((⟨#[]⟩:ByteArray)),dS ((⟨#[]⟩:ByteArray)),dS ((⟨#[]⟩:ByteArray)),dI 0,dI 0,dI 0,dI 0,dB false,dI 0,dN,dN,dN,dN,dI 0,dI 0,dS ((⟨#[]⟩:ByteArray)),dN,dN,dI 0,dI 0,dS ((⟨#[]⟩:ByteArray)),dN,dN])]⟩) ?_ ?_
 ·have h0o1:=h
  have h:=ho
  clear ho
  obtain⟨_,hk,h⟩:=bi h
  have hk:=ck_some hk
  refine ww ?_
  refine bL (fun j s=>∃(o1_0:Nat),(o1_0≤x0.Objects.length∧j=x0.Objects.length-o1_0)∧s=⟨[(1,.one (.c (dS x1))),(4,.one (.c (.pt 0 0))),(9,.one (.c (dM (x0.Objects.map eObject)))),(10,.one (.c (dI ((x0.Objects.length:Int))))),(11,.one (.c (dI ((o1_0:Int)))))],[some (.box [dS ((⟨#[]⟩:ByteArray)),dS ((⟨#[]⟩:ByteArray)),dS ((⟨#[]⟩:ByteArray)),dI 0,dI 0,dI 0,dI 0,dB false,dI 0,dN,dN,dN,dN,dI 0,dI 0,dS ((⟨#[]⟩:ByteArray)),dN,dN,dI 0,dI 0,dS ((⟨#[]⟩:ByteArray)),dN,dN])]⟩∧F13_l1 x1 (x0.Objects.drop o1_0) o1_0=some o1) (x0.Objects.length-0) [some 1] ⟨0,⟨hk.1,rfl⟩,rfl,h⟩ ?_
  rintro _ _ ⟨o1_0,⟨hi,rfl⟩,rfl,h⟩
  refine ww ?_
  refine condS (fun c2=>?_) (fun c2=>?_)
  ·obtain⟨xo1,hxo1,hd⟩:=countY (show(o1_0:Int)<(x0.Objects.length:Int)from c2)
   rw[hd,F13_l1]at h
   refine ww ?_
   refine t_idxF (enc:=eObject) (xs:=x0.Objects) rfl rfl hxo1 rfl (ww ?_)
   obtain⟨t3,ht3,h⟩:=bi h
   refine cN [] (F33_ok ht3) trivial (ww ?_)
   refine condSh h (fun c4 h=>?_) (fun c4 h=>?_)
   ·refine ww ?_
    obtain⟨t5,ht5,h⟩:=bi h
    refine cN [] (F37_ok ht5) trivial (ww ?_)
    obtain⟨fh0o1,hfh0o1,rfl⟩:=Option.map_eq_some_iff.1 h
    have h:=hfh0o1.trans h0o1
    cases h
    exact eF [some 2,some 3,some 4,some 5,some 6,some 7,some 8,some 9]
   refine ww ?_
   rw[wrapN (by omega)]
   exact eL' (x0.Objects.length-(o1_0+1)) [some 0] ⟨o1_0+1,⟨by omega,rfl⟩,rfl,h⟩ (by omega)
  rw[countN (show¬((o1_0:Int)<(x0.Objects.length:Int))from c2),F13_l1]at h
  refine ww ?_
  cases h
  exact eM [some 0] ⟨_,rfl,rfl⟩
 rintro _ ⟨po1,rfl,rfl⟩
 clear ho
 dsimp only at h
 refine ww ?_
 cases h
 exact eF [none,none,none,none,none,none,none,none]
end Go.Proofs.YtdkmamiedcanfaaGreat
