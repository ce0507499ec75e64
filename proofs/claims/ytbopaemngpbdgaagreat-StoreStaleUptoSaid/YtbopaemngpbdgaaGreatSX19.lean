/- Each Go function as a function over typed data, and its walk. -/
import Derived.Test.YtbopaemngpbdgaaGreatSX
import Derived.Test.YtbopaemngpbdgaaGreatSX3
import Derived.Test.YtbopaemngpbdgaaGreatSX4
import Derived.Test.YtbopaemngpbdgaaGreatSX7
import Derived.Test.YtbopaemngpbdgaaGreatSX9
import Derived.Test.YtbopaemngpbdgaaGreatSX14
import Derived.Test.YtbopaemngpbdgaaGreatSX16
namespace Go.Proofs.YtbopaemngpbdgaaGreat
open Go Go.Fw Go.Shelf
set_option maxRecDepth 100000
set_option maxHeartbeats 4000000
set_option linter.unusedSimpArgs false
set_option linter.unusedVariables false
def F35(x0:(List Object))(x1:ByteArray):Option (Int×Bool):=(F70 x0 x1).bind fun t1=>some ((t1.1,t1.2))
def a35:AFn:=⟨11,[(.tmp 4),(.tmp 5)],
 (.seq (.reg [sq 4 (.mv (kI 0)),
sq 5 (.mv (kB false))])
 (.seq (.reg [sq 6 (.mv (.t 0)),
sq 7 (.mv (.t 1)),
sq 8 (.call 70 [(.t 6),(.t 7),(.f 71)]),
sq 9 (.ext (.t 8) 0),
sq 10 (.ext (.t 8) 1),
sq 4 (.mv (.t 9)),
sq 5 (.mv (.t 10))])
 .ret))⟩
theorem a35_ok:afn Tryz.prog 35=some a35.er:=by kernel_rfl
theorem F35_ok{x0 x1 r}(h:F35 x0 x1=some r):CallD Tryz.prog 35 [.c (dM (x0.map eObject)),.c (dS x1)] [] (tupV [.c (dI r.1),.c (dB r.2)]) []:=by
 refine callS a35_ok (by simp[a35]) ?_
 rw[F35]at h
 simp only[a35,VW.down,Nat.reduceEqDiff,reduceCtorEq,Nat.reduceAdd,Nat.reduceLeDiff,Nat.reduceLT,Nat.reduceBEq,Nat.reduceSub,EE.down]
 obtain⟨t1,ht1,h⟩:=bi h
 refine cN [] (F70_ok ht1) trivial (ww ?_)
 cases h
 exact eF []
def F52(x0:(List Object))(x1:Change):Option ((List Object)×Bool):=(F37 x1.Object.Meta).bind fun t1=>(F35 x0 t1).bind fun t2=>(((if x1.Kind=2 then some (nb t2.2)else some false)).bind fun o3=>(if o3=true then some ((x0,false))else(if x1.Kind=2 then(delI x0 t2.1 ((IntKind.i64.wrap (t2.1+1)))).bind fun t7=>some ((t7,true))else(if t2.2=true then(rdI x0 t2.1).bind fun y9=>some (((x0.set t2.1.toNat x1.Object),true))else(insI x0 t2.1 x1.Object).bind fun t10=>some ((t10,true))))))
def a52:AFn:=⟨49,[(.tmp 4),(.tmp 5)],
 (.seq (.reg [sq 3 (.box (.t 1)),
sq 4 (.mv kN),
sq 5 (.mv (kB false))])
 (.seq (.reg [sq 9 (.mv (.t 0)),
sq 10 (.fieldA 2 (.t 3)),
sq 11 (.fieldA 0 (.t 10)),
sq 12 (.load (some 13) (.t 11)),
sq 13 (.call 37 [(.t 12)]),
sq 14 (.call 35 [(.t 9),(.t 13)]),
sq 8 (.mv (.t 14)),
sq 15 (.ext (.t 8) 0),
sq 16 (.ext (.t 8) 1),
sq 6 (.mv (.t 15)),
sq 7 (.mv (.t 16))])
 (.seq (.block 0 (.seq (.sem (.reg [sq 24 (.fieldA 1 (.t 3)),
sq 25 (.load none (.t 24)),
sq 26 (.bin .eql (.t 25) (kI 2)),
sq 27 (.mv (.t 26)),
zg 28 27 true (.mv (.t 7)),
zg 29 27 true (.not (.t 28)),
sq 30 (.pick (.t 27) (.t 29) (kB false)),
sq 23 (.mv (.t 30))]))
 (.cond (.t 23)
 (.seq (.reg [sq 31 (.mv (.t 0)),
sq 4 (.mv (.t 31)),
sq 5 (.mv (kB false))])
 .ret)
 (.seq (.reg [sq 33 (.fieldA 1 (.t 3)),
sq 34 (.load none (.t 33)),
sq 35 (.bin .eql (.t 34) (kI 2)),
sq 32 (.mv (.t 35))])
 (.cond (.t 32)
 (.seq (.reg [sq 36 (.mv (.t 0)),
sq 37 (.mv (.t 6)),
sq 38 (.mv (.t 6)),
sq 39 (.bin .add (.t 38) (kI 1)),
sq 40 (.call 90 [(.t 36),(.t 37),(.t 39)]),
sq 4 (.mv (.t 40)),
sq 5 (.mv (kB true))])
 .ret)
 (.seq (.reg [sq 42 (.mv (.t 7)),
sq 41 (.mv (.t 42))])
 (.cond (.t 41)
 (.reg [sq 43 (.mv (.t 0)),
sq 44 (.mv (.t 6)),
sq 45 (.fieldA 2 (.t 3)),
sq 46 (.load (some 23) (.t 45)),
sq 47 (.indexA 23 (.t 43) (.t 44)),
⟨none,none,.store 23 (.t 47) (.t 46),[],(.lone [3,45,43])⟩])
 (.reg [sq 17 (.mv (.t 0)),
sq 18 (.mv (.t 6)),
sq 19 (.fieldA 2 (.t 3)),
sq 20 (.load (some 23) (.t 19)),
sq 21 (.bslice 23 [(.t 20)]),
sq 22 (.call 91 [(.t 17),(.t 18),(.t 21)]),
sq 0 (.mv (.t 22))]))))))))
 (.seq (.reg [sq 48 (.mv (.t 0)),
sq 4 (.mv (.t 48)),
sq 5 (.mv (kB true))])
 .ret))))⟩
theorem a52_ok:afn Tryz.prog 52=some a52.er:=by kernel_rfl
theorem F52_ok{x0 x1 r}{e0:Nat}(h:F52 x0 x1=some r):CallD Tryz.prog 52 [.c (.own 0 e0 0 (x0.length) none),.agg [dI x1.Rev,dI x1.Kind,dS x1.Object.Meta.Kind,dS x1.Object.Meta.Namespace,dS x1.Object.Meta.Name,dI x1.Object.Meta.Uid,dI x1.Object.Meta.Version,dI x1.Object.Meta.Generation,dI x1.Object.Meta.Created,dB x1.Object.Meta.Deleting,dI x1.Object.Meta.DeleteAt,dM (x1.Object.Meta.Labels.map eLabel),dM (x1.Object.Meta.Owners.map eOwner),dM (x1.Object.Meta.Finalizers.map eS),dM (x1.Object.Meta.Managers.map eManager),dI x1.Object.Spec.Kind,dI x1.Object.Spec.N,dS x1.Object.Spec.S,dM (x1.Object.Spec.List_.map eTValue),dM (x1.Object.Spec.Fields.map eTField),dI x1.Object.Status.Kind,dI x1.Object.Status.N,dS x1.Object.Status.S,dM (x1.Object.Status.List_.map eTValue),dM (x1.Object.Status.Fields.map eTField)]] [some (.arr e0 23 (x0.map eObject))] (tupV [.c (.own 0 (e0+2) 0 (r.1.length) none),.c (dB r.2)]) [some (.arr (e0+2) 23 (r.1.map eObject))]:=by
 refine callS a52_ok (by simp[a52]) ?_
 rw[F52]at h
 simp only[a52,VW.down,Nat.reduceEqDiff,reduceCtorEq,Nat.reduceAdd,Nat.reduceLeDiff,Nat.reduceLT,Nat.reduceBEq,Nat.reduceSub,EE.down]
 obtain⟨t1,ht1,h⟩:=bi h
 refine cN [] (F37_ok ht1) trivial (ww ?_)
 obtain⟨t2,ht2,h⟩:=bi h
 refine callX_bor (F35_ok ht2) (by simp only[borAs,bors,hp,List.getElem?_cons_zero,List.getElem?_cons_succ,Option.join_some,List.drop_zero,bor_full',true_and,Nat.zero_add,List.length_map,Nat.le_refl,nrm,List.length_cons,List.length_nil,Nat.reduceAdd,Nat.reduceLeDiff,List.take_succ_cons,List.take_zero,List.take_nil,List.map_cons,List.map_nil,List.length_set,EE.down]) rfl ?_
 refine ww ?_
 obtain⟨o3,ho,h⟩:=bi h
 refine cutS (fun s=>s=⟨[(0,.one (.c (.own 0 e0 0 (x0.length) none))),(3,.one (.c (.pt 1 0))),(6,.one (.c (dI t2.1))),(7,.one (.c (dB t2.2))),(23,.one (.c (dB o3)))],[some (.arr e0 23 (x0.map eObject)),some (.box [dI x1.Rev,dI x1.Kind,dS x1.Object.Meta.Kind,dS x1.Object.Meta.Namespace,dS x1.Object.Meta.Name,dI x1.Object.Meta.Uid,dI x1.Object.Meta.Version,dI x1.Object.Meta.Generation,dI x1.Object.Meta.Created,dB x1.Object.Meta.Deleting,dI x1.Object.Meta.DeleteAt,dM (x1.Object.Meta.Labels.map eLabel),dM (x1.Object.Meta.Owners.map eOwner),dM (x1.Object.Meta.Finalizers.map eS),dM (x1.Object.Meta.Managers.map eManager),dI x1.Object.Spec.Kind,dI x1.Object.Spec.N,dS x1.Object.Spec.S,dM (x1.Object.Spec.List_.map eTValue),dM (x1.Object.Spec.Fields.map eTField),dI x1.Object.Status.Kind,dI x1.Object.Status.N,dS x1.Object.Status.S,dM (x1.Object.Status.List_.map eTValue),dM (x1.Object.Status.Fields.map eTField)])]⟩) ?_ ?_
 ·have h:=ho
  clear ho
  refine ww ?_
  refine guardSh h (fun g4 h=>?_) (fun g4 h=>?_)
  ·refine ww ?_
   cases h
   exact eM [some 0,some 1] rfl
  refine ww ?_
  cases h
  exact eM [some 0,some 1] rfl
 rintro _ rfl
 clear ho
 refine ww ?_
 refine condBh h (fun c5 h=>?_) (fun c5 h=>?_)
 ·refine ww ?_
  cases h
  exact eF [some 0]
 refine ww ?_
 refine condSh h (fun c6 h=>?_) (fun c6 h=>?_)
 ·refine ww ?_
  obtain⟨t7,ht7,h⟩:=bi h
  refine cN [0] (F90_ok (e0:=e0) ht7) ⟨⟨rfl,trivial⟩,trivial⟩ ?_
  refine ww ?_
  cases h
  exact eF [some 0]
 refine ww ?_
 refine condBh h (fun c8 h=>?_) (fun c8 h=>?_)
 ·refine ww ?_
  obtain⟨y9,hy9,h⟩:=bi h
  refine t_idxO (enc:=eObject) (xs:=x0) rfl rfl rfl (by first|rfl|simp only[List.length_set]|exact(clrL_len (slI_len (by assumption))).symm) hy9 (ww ?_)
  refine StRow.rd (y':=x1.Object) (rdI_some hy9).2.1 (by simp[EE.down]) (by first|rfl|(simp only[bor_full'];rfl)) (ww ?_)
  cases h
  exact eF [some 0]
 refine ww ?_
 refine t_bslice (enc:=eObject) (ys:=[x1.Object]) rfl rfl (by simp[A1.cells]) (by first|rfl|(simp only[List.drop_zero,take_mapL];rfl)|(simp only[lit,List.map_cons,List.map_nil,List.drop_zero,take_mapL,EE.down];done)|(simp only[lit,List.map_cons,List.map_nil,List.drop_zero,take_mapL,EE.down];rfl)) (ww ?_)
 obtain⟨t10,ht10,h⟩:=bi h
 refine cN [0,2] (F91_ok (e0:=e0) (e1:=0) ht10) ⟨⟨rfl,trivial⟩,⟨⟨rfl,trivial⟩,trivial⟩⟩ ?_
 refine ww ?_
 cases h
 exact eF [some 0]
def F66_l3:List Change→Nat→(List Object)→Option ((List Object))
 |[],o3_1,o3_0=>some o3_0
 |xo3::xs,o3_1,o3_0=>(F52 o3_0 xo3).bind fun t5=>F66_l3 xs (o3_1+1) t5.1
def F66(x0:TStore)(x1:Int):Option ((List Object)):=(cloneI x0.Base).bind fun t1=>(slI x0.History 0 ((IntKind.i64.wrap (x1-x0.Floor)))).bind fun s2=>(((ck (0≤s2.length∧s2.length≤4294967290)).bind fun u6=>F66_l3 s2 0 t1).bind fun o3=>some o3)
def a66:AFn:=⟨31,[(.tmp 4)],
 (.seq (.reg [sq 2 (.box (.t 0)),
sq 4 (.mv kN)])
 (.seq (.reg [sq 8 (.fieldA 3 (.t 2)),
sq 9 (.load none (.t 8)),
sq 10 (.call 51 [(.t 9)]),
sq 5 (.mv (.t 10))])
 (.seq (.seq (.reg [sq 11 (.fieldA 5 (.t 2)),
sq 12 (.load none (.t 11)),
sq 13 (.mv (.t 1)),
sq 14 (.fieldA 1 (.t 2)),
sq 15 (.load none (.t 14)),
sq 16 (.bin .sub (.t 13) (.t 15)),
sq 17 (.slice 25 (.t 12) none (some (.t 16)) none),
sq 18 (.len (.t 17)),
sq 19 (.mv (kI 0))])
 (.sem (.block 0 (.loop (.seq (.reg [sq 20 (.bin .lss (.t 19) (.t 18))])
 (.seq (.cond (.t 20)
 .skip
 (.exit 0))
 (.seq (.block 1 (.seq (.reg [sq 21 (.indexA 25 (.t 17) (.t 19)),
sq 22 (.load (some 25) (.t 21)),
sq 7 (.zbox [dI 0,dI 0,dS ⟨#[]⟩,dS ⟨#[]⟩,dS ⟨#[]⟩,dI 0,dI 0,dI 0,dI 0,dB false,dI 0,dN,dN,dN,dN,dI 0,dI 0,dS ⟨#[]⟩,dN,dN,dI 0,dI 0,dS ⟨#[]⟩,dN,dN]),
su (.store 25 (.t 7) (.t 22))])
 (.reg [sq 24 (.mv (.t 5)),
sq 25 (.load (some 25) (.t 7)),
sq 26 (.call 52 [(.t 24),(.t 25)]),
sq 23 (.mv (.t 26)),
sq 27 (.ext (.t 23) 0),
sq 28 (.ext (.t 23) 1),
sq 5 (.mv (.t 27))])))
 (.reg [sq 29 (.bin .add (.t 19) (kI 1)),
sq 19 (.mv (.t 29))]))))))))
 (.seq (.reg [sq 30 (.mv (.t 5)),
sq 4 (.mv (.t 30))])
 .ret))))⟩
theorem a66_ok:afn Tryz.prog 66=some a66.er:=by kernel_rfl
theorem F66_ok{x0 x1 r}(h:F66 x0 x1=some r):CallD Tryz.prog 66 [.agg [dI x0.Rev,dI x0.Floor,dI x0.NextUid,dM (x0.Base.map eObject),dM (x0.Objects.map eObject),dM (x0.History.map eChange)],.c (dI x1)] [] (tupV [.c (.own 0 0 0 (r.length) none)]) [some (.arr 0 23 (r.map eObject))]:=by
 refine callS a66_ok (by simp[a66]) ?_
 rw[F66]at h
 simp only[a66,VW.down,Nat.reduceEqDiff,reduceCtorEq,Nat.reduceAdd,Nat.reduceLeDiff,Nat.reduceLT,Nat.reduceBEq,Nat.reduceSub,EE.down]
 obtain⟨t1,ht1,h⟩:=bi h
 refine cN [] (F51_ok ht1) trivial (ww ?_)
 obtain⟨s2,hs2,h⟩:=bi h
 refine t_slice (enc:=eChange) (xs:=x0.History) rfl rfl rfl (fun _=>rfl) hs2 (ww ?_)
 obtain⟨o3,ho,h⟩:=bi h
 refine cutS (fun s=>s=⟨[(5,.one (.c (.own 0 0 0 (o3.length) none)))],[some (.arr 0 23 (o3.map eObject))]⟩) ?_ ?_
 ·have h:=ho
  clear ho
  obtain⟨_,hk,h⟩:=bi h
  have hk:=ck_some hk
  refine ww ?_
  refine bL (fun j s=>∃(o3_1:Nat) (o3_0:List Object),(o3_1≤s2.length∧j=s2.length-o3_1)∧s=⟨[(5,.one (.c (.own 0 0 0 (o3_0.length) none))),(17,.one (.c (dM (s2.map eChange)))),(18,.one (.c (dI ((s2.length:Int))))),(19,.one (.c (dI ((o3_1:Int)))))],[some (.arr 0 23 (o3_0.map eObject))]⟩∧F66_l3 (s2.drop o3_1) o3_1 o3_0=some o3) (s2.length-0) [some 1] ⟨0,t1,⟨hk.1,rfl⟩,rfl,h⟩ ?_
  rintro _ _ ⟨o3_1,o3_0,⟨hi,rfl⟩,rfl,h⟩
  refine ww ?_
  refine condS (fun c4=>?_) (fun c4=>?_)
  ·obtain⟨xo3,hxo3,hd⟩:=countY (show(o3_1:Int)<(s2.length:Int)from c4)
   rw[hd,F66_l3]at h
   refine ww ?_
   refine t_idxF (enc:=eChange) (xs:=s2) rfl rfl hxo3 rfl (ww ?_)
   obtain⟨t5,ht5,h⟩:=bi h
   refine cN [0] (F52_ok (e0:=0) ht5) ⟨⟨rfl,trivial⟩,trivial⟩ ?_
   refine ww ?_
   rw[wrapN (by omega)]
   exact eL' (s2.length-(o3_1+1)) [some 0] ⟨o3_1+1,t5.1,⟨by omega,rfl⟩,rfl,h⟩ (by omega)
  rw[countN (show¬((o3_1:Int)<(s2.length:Int))from c4),F66_l3]at h
  refine ww ?_
  cases h
  exact eM [some 0] rfl
 rintro _ rfl
 clear ho
 refine ww ?_
 cases h
 exact eF [some 0]
def F10(x0:TStore)(x1:ByteArray):Option (ByteArray×ByteArray×ByteArray×Int×Int×Int×Int×Bool×Int×(List Label)×(List Owner)×(List ByteArray)×(List Manager)×Int×Int×ByteArray×((List TValue))×((List TField))×Int×Int×ByteArray×((List TValue))×((List TField))×Bool):=(F35 x0.Objects x1).bind fun t1=>(if t1.2=true then(rdI x0.Objects t1.1).bind fun y3=>(F36 y3).bind fun t4=>some ((y3.Meta.Kind,y3.Meta.Namespace,y3.Meta.Name,y3.Meta.Uid,y3.Meta.Version,y3.Meta.Generation,y3.Meta.Created,y3.Meta.Deleting,y3.Meta.DeleteAt,t4.1,t4.2.1,t4.2.2.1,t4.2.2.2.1,t4.2.2.2.2.1,t4.2.2.2.2.2.1,t4.2.2.2.2.2.2.1,t4.2.2.2.2.2.2.2.1,t4.2.2.2.2.2.2.2.2.1,t4.2.2.2.2.2.2.2.2.2.1,t4.2.2.2.2.2.2.2.2.2.2.1,t4.2.2.2.2.2.2.2.2.2.2.2.1,t4.2.2.2.2.2.2.2.2.2.2.2.2.1,t4.2.2.2.2.2.2.2.2.2.2.2.2.2,true))else some (((⟨#[]⟩:ByteArray),(⟨#[]⟩:ByteArray),(⟨#[]⟩:ByteArray),0,0,0,0,false,0,[],[],[],[],0,0,(⟨#[]⟩:ByteArray),[],[],0,0,(⟨#[]⟩:ByteArray),[],[],false)))
def a10:AFn:=⟨23,[(.cell 4 (some 23)),(.tmp 5)],
 (.seq (.reg [sq 2 (.box (.t 0)),
sq 4 (.zbox [dS ⟨#[]⟩,dS ⟨#[]⟩,dS ⟨#[]⟩,dI 0,dI 0,dI 0,dI 0,dB false,dI 0,dN,dN,dN,dN,dI 0,dI 0,dS ⟨#[]⟩,dN,dN,dI 0,dI 0,dS ⟨#[]⟩,dN,dN]),
sq 5 (.mv (kB false))])
 (.seq (.seq (.reg [sq 9 (.fieldA 4 (.t 2)),
sq 10 (.load none (.t 9)),
sq 11 (.mv (.t 1)),
sq 12 (.call 35 [(.t 10),(.t 11)]),
sq 8 (.mv (.t 12)),
sq 13 (.ext (.t 8) 0),
sq 14 (.ext (.t 8) 1),
sq 6 (.mv (.t 13)),
sq 7 (.mv (.t 14))])
 (.seq (.reg [sq 15 (.mv (.t 7))])
 (.cond (.t 15)
 (.seq (.reg [sq 16 (.fieldA 4 (.t 2)),
sq 17 (.load none (.t 16)),
sq 18 (.mv (.t 6)),
sq 19 (.indexA 23 (.t 17) (.t 18)),
sq 20 (.load (some 23) (.t 19)),
sq 21 (.call 36 [(.t 20)]),
su (.store 23 (.t 4) (.t 21)),
sq 5 (.mv (kB true))])
 .ret)
 .skip)))
 (.seq (.reg [sq 22 (.build [dS ⟨#[]⟩,dS ⟨#[]⟩,dS ⟨#[]⟩,dI 0,dI 0,dI 0,dI 0,dB false,dI 0,dN,dN,dN,dN,dI 0,dI 0,dS ⟨#[]⟩,dN,dN,dI 0,dI 0,dS ⟨#[]⟩,dN,dN] []),
su (.store 23 (.t 4) (.t 22)),
sq 5 (.mv (kB false))])
 .ret)))⟩
theorem a10_ok:afn Tryz.prog 10=some a10.er:=by kernel_rfl
theorem F10_ok{x0 x1 r}(h:F10 x0 x1=some r):CallD Tryz.prog 10 [.agg [dI x0.Rev,dI x0.Floor,dI x0.NextUid,dM (x0.Base.map eObject),dM (x0.Objects.map eObject),dM (x0.History.map eChange)],.c (dS x1)] [] (tupV [.agg [dS r.1,dS r.2.1,dS r.2.2.1,dI r.2.2.2.1,dI r.2.2.2.2.1,dI r.2.2.2.2.2.1,dI r.2.2.2.2.2.2.1,dB r.2.2.2.2.2.2.2.1,dI r.2.2.2.2.2.2.2.2.1,.own 0 0 0 (r.2.2.2.2.2.2.2.2.2.1.length) none,.own 1 0 0 (r.2.2.2.2.2.2.2.2.2.2.1.length) none,.own 2 0 0 (r.2.2.2.2.2.2.2.2.2.2.2.1.length) none,.own 3 0 0 (r.2.2.2.2.2.2.2.2.2.2.2.2.1.length) none,dI r.2.2.2.2.2.2.2.2.2.2.2.2.2.1,dI r.2.2.2.2.2.2.2.2.2.2.2.2.2.2.1,dS r.2.2.2.2.2.2.2.2.2.2.2.2.2.2.2.1,dM (r.2.2.2.2.2.2.2.2.2.2.2.2.2.2.2.2.1.map eTValue),dM (r.2.2.2.2.2.2.2.2.2.2.2.2.2.2.2.2.2.1.map eTField),dI r.2.2.2.2.2.2.2.2.2.2.2.2.2.2.2.2.2.2.1,dI r.2.2.2.2.2.2.2.2.2.2.2.2.2.2.2.2.2.2.2.1,dS r.2.2.2.2.2.2.2.2.2.2.2.2.2.2.2.2.2.2.2.2.1,dM (r.2.2.2.2.2.2.2.2.2.2.2.2.2.2.2.2.2.2.2.2.2.1.map eTValue),dM (r.2.2.2.2.2.2.2.2.2.2.2.2.2.2.2.2.2.2.2.2.2.2.1.map eTField)],.c (dB r.2.2.2.2.2.2.2.2.2.2.2.2.2.2.2.2.2.2.2.2.2.2.2)]) [some (.arr 0 2 (r.2.2.2.2.2.2.2.2.2.1.map eLabel)),some (.arr 0 5 (r.2.2.2.2.2.2.2.2.2.2.1.map eOwner)),some (.arr 0 1 (r.2.2.2.2.2.2.2.2.2.2.2.1.map eS)),some (.arr 0 2 (r.2.2.2.2.2.2.2.2.2.2.2.2.1.map eManager))]:=by
 refine callS a10_ok (by simp[a10]) ?_
 rw[F10]at h
 simp only[a10,VW.down,Nat.reduceEqDiff,reduceCtorEq,Nat.reduceAdd,Nat.reduceLeDiff,Nat.reduceLT,Nat.reduceBEq,Nat.reduceSub,EE.down]
 obtain⟨t1,ht1,h⟩:=bi h
 refine cN [] (F35_ok ht1) trivial (ww ?_)
 refine condBh h (fun c2 h=>?_) (fun c2 h=>?_)
 ·refine ww ?_
  obtain⟨y3,hy3,h⟩:=bi h
  refine t_idxF (enc:=eObject) (xs:=x0.Objects) rfl rfl hy3 rfl (ww ?_)
  obtain⟨t4,ht4,h⟩:=bi h
  refine cN [] (F36_ok ht4) trivial (ww ?_)
  cases h
  exact eF [some 2,some 3,some 4,some 5]
 refine ww ?_
 cases h
 exact eF [none,none,none,none]
end Go.Proofs.YtbopaemngpbdgaaGreat
