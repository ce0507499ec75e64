/- Each Go function as a function over typed data, and its walk. -/
import Derived.Test.YtbopaemngpbdgaaCX
import Derived.Test.YtbopaemngpbdgaaCX3
import Derived.Test.YtbopaemngpbdgaaCX5
import Derived.Test.YtbopaemngpbdgaaCX7
import Derived.Test.YtbopaemngpbdgaaCX8
import Derived.Test.YtbopaemngpbdgaaCX16
namespace Go.Proofs.Ytbopaemngpbdgaa
open Go Go.Fw Go.Shelf
set_option maxRecDepth 100000
set_option maxHeartbeats 4000000
set_option linter.unusedSimpArgs false
set_option linter.unusedVariables false
def F32_l4:List Change→Nat→(List Change)→Option ((List Change))
 |[],o4_1,o4_0=>some o4_0
 |xo4::xs,o4_1,o4_0=>(rdI o4_0 ((o4_1:Int))).bind fun y6=>(F34 y6.Object).bind fun t7=>(rdI o4_0 ((o4_1:Int))).bind fun y8=>F32_l4 xs (o4_1+1) ((o4_0.set ((o4_1:Int)).toNat ((⟨y8.Rev,y8.Kind,(⟨(⟨y6.Object.Meta.Kind,y6.Object.Meta.Namespace,y6.Object.Meta.Name,y6.Object.Meta.Uid,y6.Object.Meta.Version,y6.Object.Meta.Generation,y6.Object.Meta.Created,y6.Object.Meta.Deleting,y6.Object.Meta.DeleteAt,t7.1,t7.2.1,t7.2.2.1,t7.2.2.2.1⟩:Meta),(⟨t7.2.2.2.2.1,t7.2.2.2.2.2.1,t7.2.2.2.2.2.2.1,t7.2.2.2.2.2.2.2.1,t7.2.2.2.2.2.2.2.2.1⟩:TValue),(⟨t7.2.2.2.2.2.2.2.2.2.1,t7.2.2.2.2.2.2.2.2.2.2.1,t7.2.2.2.2.2.2.2.2.2.2.2.1,t7.2.2.2.2.2.2.2.2.2.2.2.2.1,t7.2.2.2.2.2.2.2.2.2.2.2.2.2⟩:TValue)⟩:Object)⟩:Change))))
def F32(x0:TStore):Option ((List Object)×(List Object)×(List Change)):=(F47 x0.Base).bind fun t1=>(F47 x0.Objects).bind fun t2=>(cloneI x0.History).bind fun t3=>(((ck (0≤t3.length∧t3.length≤4294967290)).bind fun u9=>F32_l4 t3 0 t3).bind fun o4=>some ((t1,t2,o4)))
def a32:AFn:=⟨36,[(.cell 2 (some 6))],
 (.seq (.reg [sq 1 (.box (.t 0)),
sq 2 (.zbox [dI 0,dI 0,dI 0,dN,dN,dN])])
 (.seq (.regd [sq 4 (.fieldA 3 (.t 1)),
sd 5 (.load none (.t 4)) [0],
zn 6 (.call 47 [(.t 5)]) [0,1] [0,1],
sq 7 (.fieldA 4 (.t 1)),
sd 8 (.load none (.t 7)) [3],
sd 9 (.call 47 [(.t 8)]) [0,1,2,3,4],
sd 10 (.fieldA 3 (.t 1)) [0,1,2,3,4],
⟨none,none,.store 1 (.t 10) (.t 6),[0,1,2,3,4,5,6],(.lone [])⟩,
sd 11 (.fieldA 4 (.t 1)) [0,1,2,3,4,5,6,7],
⟨none,none,.store 1 (.t 11) (.t 9),[0,1,2,3,4,5,6,7,8],(.lone [])⟩])
 (.seq (.reg [sq 12 (.fieldA 5 (.t 1)),
sq 13 (.load none (.t 12)),
sq 14 (.call 60 [(.t 13)]),
sq 15 (.fieldA 5 (.t 1)),
su (.store 1 (.t 15) (.t 14))])
 (.seq (.seq (.reg [sq 16 (.fieldA 5 (.t 1)),
sq 17 (.load none (.t 16)),
sq 18 (.len (.t 17)),
sq 19 (.mv (kI 0))])
 (.sem (.block 0 (.loop (.seq (.reg [sq 20 (.bin .lss (.t 19) (.t 18))])
 (.seq (.cond (.t 20)
 .skip
 (.exit 0))
 (.seq (.block 1 (.seq (.reg [sq 21 (.mv (.t 19)),
sq 3 (.mv (.t 21))])
 (.regd [sq 22 (.fieldA 5 (.t 1)),
sd 23 (.load none (.t 22)) [0],
sq 24 (.mv (.t 3)),
sq 25 (.fieldA 5 (.t 1)),
sd 26 (.load none (.t 25)) [3],
sq 27 (.mv (.t 3)),
sd 28 (.indexA 25 (.t 26) (.t 27)) [3,4,5],
sd 29 (.fieldA 2 (.t 28)) [3,4,5,6],
sd 30 (.load (some 23) (.t 29)) [3,4,5,6,7],
zl 31 (.call 34 [(.t 30)]) [3,4,5,6,7,8] [1,22],
sd 32 (.indexA 25 (.t 23) (.t 24)) [0,1,2,3,4,5,6,7,8,9],
sd 33 (.fieldA 2 (.t 32)) [0,1,2,3,4,5,6,7,8,9,10],
⟨none,none,.store 23 (.t 33) (.t 31),[0,1,2,3,4,5,6,7,8,9,10,11],(.lone [])⟩])))
 (.reg [sq 34 (.bin .add (.t 19) (kI 1)),
sq 19 (.mv (.t 34))]))))))))
 (.seq (.reg [sq 35 (.load (some 6) (.t 1)),
⟨none,none,.store 6 (.t 2) (.t 35),[],(.lone [1])⟩])
 .ret)))))⟩
theorem a32_ok:afn Try.prog 32=some a32.er:=by kernel_rfl
theorem F32_ok{x0 r}(h:F32 x0=some r):CallD Try.prog 32 [.agg [dI x0.Rev,dI x0.Floor,dI x0.NextUid,dM (x0.Base.map eObject),dM (x0.Objects.map eObject),dM (x0.History.map eChange)]] [] (tupV [.agg [dI x0.Rev,dI x0.Floor,dI x0.NextUid,.own 0 0 0 (r.1.length) none,.own 1 0 0 (r.2.1.length) none,.own 2 0 0 (r.2.2.length) none]]) [some (.arr 0 23 (r.1.map eObject)),some (.arr 0 23 (r.2.1.map eObject)),some (.arr 0 25 (r.2.2.map eChange))]:=by
 refine callS a32_ok (by simp[a32]) ?_
 rw[F32]at h
 simp only[a32,VW.down,Nat.reduceEqDiff,reduceCtorEq,Nat.reduceAdd,Nat.reduceLeDiff,Nat.reduceLT,Nat.reduceBEq,Nat.reduceSub,EE.down]
 obtain⟨t1,ht1,h⟩:=bi h
 refine cN [] (F47_ok ht1) trivial (ww ?_)
 refine kD_new (by simp[wrs,allW,hset]) (ww ?_)
 obtain⟨t2,ht2,h⟩:=bi h
 refine cN [] (F47_ok ht2) trivial (ww ?_)
 refine kD_new (by simp[wrs,allW,hset]) (ww ?_)
 obtain⟨t3,ht3,h⟩:=bi h
 refine cN [] (F60_ok ht3) trivial (ww ?_)
 obtain⟨o4,ho,h⟩:=bi h
 refine cutS (fun s=>s=⟨[(1,.one (.c (.pt 0 0))),(2,.one (.c (.pt 4 0)))],[some (.box [dI x0.Rev,dI x0.Floor,dI x0.NextUid,.own 1 0 0 (t1.length) none,.own 2 0 0 (t2.length) none,.own 3 0 0 (o4.length) none]),some (.arr 0 23 (t1.map eObject)),some (.arr 0 23 (t2.map eObject)),some (.arr 0 25 (o4.map eChange)),some (.box [dI 0,dI 0,dI 0,dN,dN,dN])]⟩) ?_ ?_
 ·have h:=ho
  clear ho
  obtain⟨_,hk,h⟩:=bi h
  have hk:=ck_some hk
  refine ww ?_
  refine bL (fun j s=>∃(o4_1:Nat) (o4_0:List Change),(o4_1≤t3.length∧j=t3.length-o4_1)∧s=⟨[(1,.one (.c (.pt 0 0))),(2,.one (.c (.pt 4 0))),(18,.one (.c (dI ((t3.length:Int))))),(19,.one (.c (dI ((o4_1:Int)))))],[some (.box [dI x0.Rev,dI x0.Floor,dI x0.NextUid,.own 1 0 0 (t1.length) none,.own 2 0 0 (t2.length) none,.own 3 0 0 (o4_0.length) none]),some (.arr 0 23 (t1.map eObject)),some (.arr 0 23 (t2.map eObject)),some (.arr 0 25 (o4_0.map eChange)),some (.box [dI 0,dI 0,dI 0,dN,dN,dN])]⟩∧F32_l4 (t3.drop o4_1) o4_1 o4_0=some o4) (t3.length-0) [some 0,some 2,some 3,some 4,some 1] ⟨0,t3,⟨hk.1,rfl⟩,rfl,h⟩ ?_
  rintro _ _ ⟨o4_1,o4_0,⟨hi,rfl⟩,rfl,h⟩
  refine ww ?_
  refine condS (fun c5=>?_) (fun c5=>?_)
  ·obtain⟨xo4,hxo4,hd⟩:=countY (show(o4_1:Int)<(t3.length:Int)from c5)
   rw[hd,F32_l4]at h
   refine ww ?_
   obtain⟨y6,hy6,h⟩:=bi h
   refine t_idxO (enc:=eChange) (xs:=o4_0) rfl rfl rfl (by first|rfl|simp only[List.length_set]|exact(clrL_len (slI_len (by assumption))).symm) hy6 (ww ?_)
   refine LdRow.rd (rdI_some hy6).2.1 (ww ?_)
   obtain⟨t7,ht7,h⟩:=bi h
   refine cN [] (F34_ok ht7) trivial (ww ?_)
   obtain⟨y8,hy8,h⟩:=bi h
   refine t_idxO (enc:=eChange) (xs:=o4_0) rfl rfl rfl (by first|rfl|simp only[List.length_set]|exact(clrL_len (slI_len (by assumption))).symm) hy8 (ww ?_)
   refine StRow.rd (y':=(⟨y8.Rev,y8.Kind,(⟨(⟨y6.Object.Meta.Kind,y6.Object.Meta.Namespace,y6.Object.Meta.Name,y6.Object.Meta.Uid,y6.Object.Meta.Version,y6.Object.Meta.Generation,y6.Object.Meta.Created,y6.Object.Meta.Deleting,y6.Object.Meta.DeleteAt,t7.1,t7.2.1,t7.2.2.1,t7.2.2.2.1⟩:Meta),(⟨t7.2.2.2.2.1,t7.2.2.2.2.2.1,t7.2.2.2.2.2.2.1,t7.2.2.2.2.2.2.2.1,t7.2.2.2.2.2.2.2.2.1⟩:TValue),(⟨t7.2.2.2.2.2.2.2.2.2.1,t7.2.2.2.2.2.2.2.2.2.2.1,t7.2.2.2.2.2.2.2.2.2.2.2.1,t7.2.2.2.2.2.2.2.2.2.2.2.2.1,t7.2.2.2.2.2.2.2.2.2.2.2.2.2⟩:TValue)⟩:Object)⟩:Change)) (rdI_some hy8).2.1 (by simp[EE.down]) (by first|rfl|(simp only[bor_full'];rfl)) (ww ?_)
   rw[wrapN (by omega)]
   exact eL' (t3.length-(o4_1+1)) [some 0,some 1,some 2,some 3,some 4] ⟨o4_1+1,(o4_0.set ((o4_1:Int)).toNat ((⟨y8.Rev,y8.Kind,(⟨(⟨y6.Object.Meta.Kind,y6.Object.Meta.Namespace,y6.Object.Meta.Name,y6.Object.Meta.Uid,y6.Object.Meta.Version,y6.Object.Meta.Generation,y6.Object.Meta.Created,y6.Object.Meta.Deleting,y6.Object.Meta.DeleteAt,t7.1,t7.2.1,t7.2.2.1,t7.2.2.2.1⟩:Meta),(⟨t7.2.2.2.2.1,t7.2.2.2.2.2.1,t7.2.2.2.2.2.2.1,t7.2.2.2.2.2.2.2.1,t7.2.2.2.2.2.2.2.2.1⟩:TValue),(⟨t7.2.2.2.2.2.2.2.2.2.1,t7.2.2.2.2.2.2.2.2.2.2.1,t7.2.2.2.2.2.2.2.2.2.2.2.1,t7.2.2.2.2.2.2.2.2.2.2.2.2.1,t7.2.2.2.2.2.2.2.2.2.2.2.2.2⟩:TValue)⟩:Object)⟩:Change))),⟨by omega,rfl⟩,rfl,h⟩ (by omega)
  rw[countN (show¬((o4_1:Int)<(t3.length:Int))from c5),F32_l4]at h
  refine ww ?_
  cases h
  exact eM [some 0,some 1,some 2,some 3,some 4] rfl
 rintro _ rfl
 clear ho
 refine ww ?_
 cases h
 exact eF [some 1,some 2,some 3]
def F45(x0:(List Object))(x1:Change):Option ((List Object)×Bool):=(F33 x1.Object.Meta).bind fun t1=>(F51 x0 t1).bind fun t2=>(((if x1.Kind=2 then some (nb t2.2)else some false)).bind fun o3=>(if o3=true then some ((x0,false))else(if x1.Kind=2 then(delI x0 t2.1 ((IntKind.i64.wrap (t2.1+1)))).bind fun t7=>some ((t7,true))else(if t2.2=true then(rdI x0 t2.1).bind fun y9=>some (((x0.set t2.1.toNat x1.Object),true))else(insI x0 t2.1 x1.Object).bind fun t10=>some ((t10,true))))))
def a45:AFn:=⟨49,[(.tmp 4),(.tmp 5)],
 (.seq (.reg [sq 3 (.box (.t 1)),
sq 4 (.mv kN),
sq 5 (.mv (kB false))])
 (.seq (.reg [sq 9 (.mv (.t 0)),
sq 10 (.fieldA 2 (.t 3)),
sq 11 (.fieldA 0 (.t 10)),
sq 12 (.load (some 13) (.t 11)),
sq 13 (.call 33 [(.t 12)]),
sq 14 (.call 51 [(.t 9),(.t 13)]),
sq 8 (.mv (.t 14)),
sq 15 (.ext (.t 8) 0),
sq 16 (.ext (.t 8) 1),
sq 6 (.mv (.t 15)),
sq 7 (.mv (.t 16))])
 (.seq (.block 0 (.seq (.sem (.reg [sq 24 (.fieldA 1 (.t 3)),
sq 25 (.load none (.t 24)),
sq 26 (.bin .eql (.t 25) (kI 2)),
sq 27 (.mv (.t 26)),
zg 28 27 true (.mv (.t 7)),
zg 29 27 true (.not (.t 28)),
sq 30 (.pick (.t 27) (.t 29) (kB false)),
sq 23 (.mv (.t 30))]))
 (.cond (.t 23)
 (.seq (.reg [sq 31 (.mv (.t 0)),
sq 4 (.mv (.t 31)),
sq 5 (.mv (kB false))])
 .ret)
 (.seq (.reg [sq 33 (.fieldA 1 (.t 3)),
sq 34 (.load none (.t 33)),
sq 35 (.bin .eql (.t 34) (kI 2)),
sq 32 (.mv (.t 35))])
 (.cond (.t 32)
 (.seq (.reg [sq 36 (.mv (.t 0)),
sq 37 (.mv (.t 6)),
sq 38 (.mv (.t 6)),
sq 39 (.bin .add (.t 38) (kI 1)),
sq 40 (.call 68 [(.t 36),(.t 37),(.t 39)]),
sq 4 (.mv (.t 40)),
sq 5 (.mv (kB true))])
 .ret)
 (.seq (.reg [sq 42 (.mv (.t 7)),
sq 41 (.mv (.t 42))])
 (.cond (.t 41)
 (.reg [sq 43 (.mv (.t 0)),
sq 44 (.mv (.t 6)),
sq 45 (.fieldA 2 (.t 3)),
sq 46 (.load (some 23) (.t 45)),
sq 47 (.indexA 23 (.t 43) (.t 44)),
⟨none,none,.store 23 (.t 47) (.t 46),[],(.lone [3,45,43])⟩])
 (.reg [sq 17 (.mv (.t 0)),
sq 18 (.mv (.t 6)),
sq 19 (.fieldA 2 (.t 3)),
sq 20 (.load (some 23) (.t 19)),
sq 21 (.bslice 23 [(.t 20)]),
sq 22 (.call 69 [(.t 17),(.t 18),(.t 21)]),
sq 0 (.mv (.t 22))]))))))))
 (.seq (.reg [sq 48 (.mv (.t 0)),
sq 4 (.mv (.t 48)),
sq 5 (.mv (kB true))])
 .ret))))⟩
theorem a45_ok:afn Try.prog 45=some a45.er:=by kernel_rfl
theorem F45_ok{x0 x1 r}{e0:Nat}(h:F45 x0 x1=some r):CallD Try.prog 45 [.c (.own 0 e0 0 (x0.length) none),.agg [dI x1.Rev,dI x1.Kind,dS x1.Object.Meta.Kind,dS x1.Object.Meta.Namespace,dS x1.Object.Meta.Name,dI x1.Object.Meta.Uid,dI x1.Object.Meta.Version,dI x1.Object.Meta.Generation,dI x1.Object.Meta.Created,dB x1.Object.Meta.Deleting,dI x1.Object.Meta.DeleteAt,dM (x1.Object.Meta.Labels.map eLabel),dM (x1.Object.Meta.Owners.map eOwner),dM (x1.Object.Meta.Finalizers.map eS),dM (x1.Object.Meta.Managers.map eManager),dI x1.Object.Spec.Kind,dI x1.Object.Spec.N,dS x1.Object.Spec.S,dM (x1.Object.Spec.List_.map eTValue),dM (x1.Object.Spec.Fields.map eTField),dI x1.Object.Status.Kind,dI x1.Object.Status.N,dS x1.Object.Status.S,dM (x1.Object.Status.List_.map eTValue),dM (x1.Object.Status.Fields.map eTField)]] [some (.arr e0 23 (x0.map eObject))] (tupV [.c (.own 0 (e0+2) 0 (r.1.length) none),.c (dB r.2)]) [some (.arr (e0+2) 23 (r.1.map eObject))]:=by
 refine callS a45_ok (by simp[a45]) ?_
 rw[F45]at h
 simp only[a45,VW.down,Nat.reduceEqDiff,reduceCtorEq,Nat.reduceAdd,Nat.reduceLeDiff,Nat.reduceLT,Nat.reduceBEq,Nat.reduceSub,EE.down]
 obtain⟨t1,ht1,h⟩:=bi h
 refine cN [] (F33_ok ht1) trivial (ww ?_)
 obtain⟨t2,ht2,h⟩:=bi h
 refine callX_bor (F51_ok ht2) (by simp only[borAs,bors,hp,List.getElem?_cons_zero,List.getElem?_cons_succ,Option.join_some,List.drop_zero,bor_full',true_and,Nat.zero_add,List.length_map,Nat.le_refl,nrm,List.length_cons,List.length_nil,Nat.reduceAdd,Nat.reduceLeDiff,List.take_succ_cons,List.take_zero,List.take_nil,List.map_cons,List.map_nil,List.length_set,EE.down]) rfl ?_
 refine ww ?_
 obtain⟨o3,ho,h⟩:=bi h
 refine cutS (fun s=>s=⟨[(0,.one (.c (.own 0 e0 0 (x0.length) none))),(3,.one (.c (.pt 1 0))),(6,.one (.c (dI t2.1))),(7,.one (.c (dB t2.2))),(23,.one (.c (dB o3)))],[some (.arr e0 23 (x0.map eObject)),some (.box [dI x1.Rev,dI x1.Kind,dS x1.Object.Meta.Kind,dS x1.Object.Meta.Namespace,dS x1.Object.Meta.Name,dI x1.Object.Meta.Uid,dI x1.Object.Meta.Version,dI x1.Object.Meta.Generation,dI x1.Object.Meta.Created,dB x1.Object.Meta.Deleting,dI x1.Object.Meta.DeleteAt,dM (x1.Object.Meta.Labels.map eLabel),dM (x1.Object.Meta.Owners.map eOwner),dM (x1.Object.Meta.Finalizers.map eS),dM (x1.Object.Meta.Managers.map eManager),dI x1.Object.Spec.Kind,dI x1.Object.Spec.N,dS x1.Object.Spec.S,dM (x1.Object.Spec.List_.map eTValue),dM (x1.Object.Spec.Fields.map eTField),dI x1.Object.Status.Kind,dI x1.Object.Status.N,dS x1.Object.Status.S,dM (x1.Object.Status.List_.map eTValue),dM (x1.Object.Status.Fields.map eTField)])]⟩) ?_ ?_
 ·have h:=ho
  clear ho
  refine ww ?_
  refine guardSh h (fun g4 h=>?_) (fun g4 h=>?_)
  ·refine ww ?_
   cases h
   exact eM [some 0,some 1] rfl
  refine ww ?_
  cases h
  exact eM [some 0,some 1] rfl
 rintro _ rfl
 clear ho
 refine ww ?_
 refine condBh h (fun c5 h=>?_) (fun c5 h=>?_)
 ·refine ww ?_
  cases h
  exact eF [some 0]
 refine ww ?_
 refine condSh h (fun c6 h=>?_) (fun c6 h=>?_)
 ·refine ww ?_
  obtain⟨t7,ht7,h⟩:=bi h
  refine cN [0] (F68_ok (e0:=e0) ht7) ⟨⟨rfl,trivial⟩,trivial⟩ ?_
  refine ww ?_
  cases h
  exact eF [some 0]
 refine ww ?_
 refine condBh h (fun c8 h=>?_) (fun c8 h=>?_)
 ·refine ww ?_
  obtain⟨y9,hy9,h⟩:=bi h
  refine t_idxO (enc:=eObject) (xs:=x0) rfl rfl rfl (by first|rfl|simp only[List.length_set]|exact(clrL_len (slI_len (by assumption))).symm) hy9 (ww ?_)
  refine StRow.rd (y':=x1.Object) (rdI_some hy9).2.1 (by simp[EE.down]) (by first|rfl|(simp only[bor_full'];rfl)) (ww ?_)
  cases h
  exact eF [some 0]
 refine ww ?_
 refine t_bslice (enc:=eObject) (ys:=[x1.Object]) rfl rfl (by simp[A1.cells]) (by first|rfl|(simp only[List.drop_zero,take_mapL];rfl)|(simp only[lit,List.map_cons,List.map_nil,List.drop_zero,take_mapL,EE.down];done)|(simp only[lit,List.map_cons,List.map_nil,List.drop_zero,take_mapL,EE.down];rfl)) (ww ?_)
 obtain⟨t10,ht10,h⟩:=bi h
 refine cN [0,2] (F69_ok (e0:=e0) (e1:=0) ht10) ⟨⟨rfl,trivial⟩,⟨⟨rfl,trivial⟩,trivial⟩⟩ ?_
 refine ww ?_
 cases h
 exact eF [some 0]
def F48_l3:List Change→Nat→(List Object)→Option ((List Object))
 |[],o3_1,o3_0=>some o3_0
 |xo3::xs,o3_1,o3_0=>(F45 o3_0 xo3).bind fun t5=>F48_l3 xs (o3_1+1) t5.1
def F48(x0:TStore)(x1:Int):Option ((List Object)):=(cloneI x0.Base).bind fun t1=>(slI x0.History 0 ((IntKind.i64.wrap (x1-x0.Floor)))).bind fun s2=>(((ck (0≤s2.length∧s2.length≤4294967290)).bind fun u6=>F48_l3 s2 0 t1).bind fun o3=>some o3)
def a48:AFn:=⟨31,[(.tmp 4)],
 (.seq (.reg [sq 2 (.box (.t 0)),
sq 4 (.mv kN)])
 (.seq (.reg [sq 8 (.fieldA 3 (.t 2)),
sq 9 (.load none (.t 8)),
sq 10 (.call 44 [(.t 9)]),
sq 5 (.mv (.t 10))])
 (.seq (.seq (.reg [sq 11 (.fieldA 5 (.t 2)),
sq 12 (.load none (.t 11)),
sq 13 (.mv (.t 1)),
sq 14 (.fieldA 1 (.t 2)),
sq 15 (.load none (.t 14)),
sq 16 (.bin .sub (.t 13) (.t 15)),
sq 17 (.slice 25 (.t 12) none (some (.t 16)) none),
sq 18 (.len (.t 17)),
sq 19 (.mv (kI 0))])
 (.sem (.block 0 (.loop (.seq (.reg [sq 20 (.bin .lss (.t 19) (.t 18))])
 (.seq (.cond (.t 20)
 .skip
 (.exit 0))
 (.seq (.block 1 (.seq (.reg [sq 21 (.indexA 25 (.t 17) (.t 19)),
sq 22 (.load (some 25) (.t 21)),
sq 7 (.zbox [dI 0,dI 0,dS ⟨#[]⟩,dS ⟨#[]⟩,dS ⟨#[]⟩,dI 0,dI 0,dI 0,dI 0,dB false,dI 0,dN,dN,dN,dN,dI 0,dI 0,dS ⟨#[]⟩,dN,dN,dI 0,dI 0,dS ⟨#[]⟩,dN,dN]),
su (.store 25 (.t 7) (.t 22))])
 (.reg [sq 24 (.mv (.t 5)),
sq 25 (.load (some 25) (.t 7)),
sq 26 (.call 45 [(.t 24),(.t 25)]),
sq 23 (.mv (.t 26)),
sq 27 (.ext (.t 23) 0),
sq 28 (.ext (.t 23) 1),
sq 5 (.mv (.t 27))])))
 (.reg [sq 29 (.bin .add (.t 19) (kI 1)),
sq 19 (.mv (.t 29))]))))))))
 (.seq (.reg [sq 30 (.mv (.t 5)),
sq 4 (.mv (.t 30))])
 .ret))))⟩
theorem a48_ok:afn Try.prog 48=some a48.er:=by kernel_rfl
theorem F48_ok{x0 x1 r}(h:F48 x0 x1=some r):CallD Try.prog 48 [.agg [dI x0.Rev,dI x0.Floor,dI x0.NextUid,dM (x0.Base.map eObject),dM (x0.Objects.map eObject),dM (x0.History.map eChange)],.c (dI x1)] [] (tupV [.c (.own 0 0 0 (r.length) none)]) [some (.arr 0 23 (r.map eObject))]:=by
 refine callS a48_ok (by simp[a48]) ?_
 rw[F48]at h
 simp only[a48,VW.down,Nat.reduceEqDiff,reduceCtorEq,Nat.reduceAdd,Nat.reduceLeDiff,Nat.reduceLT,Nat.reduceBEq,Nat.reduceSub,EE.down]
 obtain⟨t1,ht1,h⟩:=bi h
 refine cN [] (F44_ok ht1) trivial (ww ?_)
 obtain⟨s2,hs2,h⟩:=bi h
 refine t_slice (enc:=eChange) (xs:=x0.History) rfl rfl rfl (fun _=>rfl) hs2 (ww ?_)
 obtain⟨o3,ho,h⟩:=bi h
 refine cutS (fun s=>s=⟨[(5,.one (.c (.own 0 0 0 (o3.length) none)))],[some (.arr 0 23 (o3.map eObject))]⟩) ?_ ?_
 ·have h:=ho
  clear ho
  obtain⟨_,hk,h⟩:=bi h
  have hk:=ck_some hk
  refine ww ?_
  refine bL (fun j s=>∃(o3_1:Nat) (o3_0:List Object),(o3_1≤s2.length∧j=s2.length-o3_1)∧s=⟨[(5,.one (.c (.own 0 0 0 (o3_0.length) none))),(17,.one (.c (dM (s2.map eChange)))),(18,.one (.c (dI ((s2.length:Int))))),(19,.one (.c (dI ((o3_1:Int)))))],[some (.arr 0 23 (o3_0.map eObject))]⟩∧F48_l3 (s2.drop o3_1) o3_1 o3_0=some o3) (s2.length-0) [some 1] ⟨0,t1,⟨hk.1,rfl⟩,rfl,h⟩ ?_
  rintro _ _ ⟨o3_1,o3_0,⟨hi,rfl⟩,rfl,h⟩
  refine ww ?_
  refine condS (fun c4=>?_) (fun c4=>?_)
  ·obtain⟨xo3,hxo3,hd⟩:=countY (show(o3_1:Int)<(s2.length:Int)from c4)
   rw[hd,F48_l3]at h
   refine ww ?_
   refine t_idxF (enc:=eChange) (xs:=s2) rfl rfl hxo3 rfl (ww ?_)
   obtain⟨t5,ht5,h⟩:=bi h
   refine cN [0] (F45_ok (e0:=0) ht5) ⟨⟨rfl,trivial⟩,trivial⟩ ?_
   refine ww ?_
   rw[wrapN (by omega)]
   exact eL' (s2.length-(o3_1+1)) [some 0] ⟨o3_1+1,t5.1,⟨by omega,rfl⟩,rfl,h⟩ (by omega)
  rw[countN (show¬((o3_1:Int)<(s2.length:Int))from c4),F48_l3]at h
  refine ww ?_
  cases h
  exact eM [some 0] rfl
 rintro _ rfl
 clear ho
 refine ww ?_
 cases h
 exact eF [some 0]
def F49(x0:TStore)(x1:Int):Option ((List Object)×((List Change))):=(F48 x0 x1).bind fun t1=>(slI x0.History ((IntKind.i64.wrap (x1-x0.Floor))) ((x0.History.length:Int))).bind fun s2=>some ((t1,s2))
def a49:AFn:=⟨20,[(.cell 4 (some 6))],
 (.seq (.reg [sq 2 (.box (.t 0)),
sq 4 (.zbox [dI 0,dI 0,dI 0,dN,dN,dN])])
 (.seq (.regd [sq 5 (.load (some 6) (.t 2)),
sq 6 (.mv (.t 1)),
zn 7 (.call 48 [(.t 5),(.t 6)]) [0,1] [0,1],
sq 8 (.fieldA 5 (.t 2)),
sd 9 (.load none (.t 8)) [3],
sq 10 (.mv (.t 1)),
sq 11 (.fieldA 1 (.t 2)),
sd 12 (.load none (.t 11)) [6],
sd 13 (.bin .sub (.t 10) (.t 12)) [5,6,7],
sd 14 (.slice 25 (.t 9) (some (.t 13)) none none) [3,4,5,6,7,8],
sq 15 (.mv (.t 1)),
sd 16 (.fieldA 3 (.t 2)) [0,1,2,3,4,6,7],
⟨none,none,.store 1 (.t 16) (.t 7),[0,1,2,3,4,6,7,11],(.lone [9])⟩,
sd 17 (.fieldA 5 (.t 2)) [0,1,2,3,4,5,6,7,8,9,11,12],
⟨none,none,.store 1 (.t 17) (.t 14),[0,1,2,3,4,5,6,7,8,9,11,12,13],(.lone [])⟩,
sd 18 (.fieldA 1 (.t 2)) [0,1,2,3,4,5,6,7,8,9,10,11,12,13,14],
⟨none,none,.store 1 (.t 18) (.t 15),[0,1,2,3,4,5,6,7,8,9,10,11,12,13,14,15],(.lone [])⟩])
 (.seq (.reg [sq 19 (.load (some 6) (.t 2)),
⟨none,none,.store 6 (.t 4) (.t 19),[],(.lone [2])⟩])
 .ret)))⟩
theorem a49_ok:afn Try.prog 49=some a49.er:=by kernel_rfl
theorem F49_ok{x0 x1 r}(h:F49 x0 x1=some r):CallD Try.prog 49 [.agg [dI x0.Rev,dI x0.Floor,dI x0.NextUid,dM (x0.Base.map eObject),dM (x0.Objects.map eObject),dM (x0.History.map eChange)],.c (dI x1)] [] (tupV [.agg [dI x0.Rev,dI x1,dI x0.NextUid,.own 0 0 0 (r.1.length) none,dM (x0.Objects.map eObject),dM (r.2.map eChange)]]) [some (.arr 0 23 (r.1.map eObject))]:=by
 refine callS a49_ok (by simp[a49]) ?_
 rw[F49]at h
 simp only[a49,VW.down,Nat.reduceEqDiff,reduceCtorEq,Nat.reduceAdd,Nat.reduceLeDiff,Nat.reduceLT,Nat.reduceBEq,Nat.reduceSub,EE.down]
 obtain⟨t1,ht1,h⟩:=bi h
 refine cN [] (F48_ok ht1) trivial (ww ?_)
 refine kD_new (by simp[wrs,allW,hset]) (ww ?_)
 obtain⟨s2,hs2,h⟩:=bi h
 refine t_slice (enc:=eChange) (xs:=x0.History) rfl rfl rfl (fun _=>rfl) hs2 (ww ?_)
 cases h
 exact eF [some 2]
def F36(x0:TStore)(x1:Int)(x2:Object):Option (Int×Int×(List Object)×(List Object)×(List Change)):=(F32 x0).bind fun t1=>(F34 x2).bind fun t2=>(F34 x2).bind fun t3=>(F45 t1.2.1 ((⟨(IntKind.i64.wrap (x0.Rev+1)),x1,(⟨(⟨x2.Meta.Kind,x2.Meta.Namespace,x2.Meta.Name,x2.Meta.Uid,x2.Meta.Version,x2.Meta.Generation,x2.Meta.Created,x2.Meta.Deleting,x2.Meta.DeleteAt,t3.1,t3.2.1,t3.2.2.1,t3.2.2.2.1⟩:Meta),(⟨t3.2.2.2.2.1,t3.2.2.2.2.2.1,t3.2.2.2.2.2.2.1,t3.2.2.2.2.2.2.2.1,t3.2.2.2.2.2.2.2.2.1⟩:TValue),(⟨t3.2.2.2.2.2.2.2.2.2.1,t3.2.2.2.2.2.2.2.2.2.2.1,t3.2.2.2.2.2.2.2.2.2.2.2.1,t3.2.2.2.2.2.2.2.2.2.2.2.2.1,t3.2.2.2.2.2.2.2.2.2.2.2.2.2⟩:TValue)⟩:Object)⟩:Change))).bind fun t4=>(apI t1.2.2 ([(⟨(IntKind.i64.wrap (x0.Rev+1)),x1,(⟨(⟨x2.Meta.Kind,x2.Meta.Namespace,x2.Meta.Name,x2.Meta.Uid,x2.Meta.Version,x2.Meta.Generation,x2.Meta.Created,x2.Meta.Deleting,x2.Meta.DeleteAt,t2.1,t2.2.1,t2.2.2.1,t2.2.2.2.1⟩:Meta),(⟨t2.2.2.2.2.1,t2.2.2.2.2.2.1,t2.2.2.2.2.2.2.1,t2.2.2.2.2.2.2.2.1,t2.2.2.2.2.2.2.2.2.1⟩:TValue),(⟨t2.2.2.2.2.2.2.2.2.2.1,t2.2.2.2.2.2.2.2.2.2.2.1,t2.2.2.2.2.2.2.2.2.2.2.2.1,t2.2.2.2.2.2.2.2.2.2.2.2.2.1,t2.2.2.2.2.2.2.2.2.2.2.2.2.2⟩:TValue)⟩:Object)⟩:Change)])).bind fun a5=>(if 4000<(a5.length:Int)then(F49 ((⟨(IntKind.i64.wrap (x0.Rev+1)),x0.Floor,x0.NextUid,t1.1,t4.1,a5⟩:TStore)) ((IntKind.i64.wrap (x0.Floor+1)))).bind fun t7=>(F32 ((⟨((IntKind.i64.wrap (x0.Rev+1))),((IntKind.i64.wrap (x0.Floor+1))),x0.NextUid,t7.1,t4.1,t7.2⟩:TStore))).bind fun t8=>some (((((IntKind.i64.wrap (x0.Rev+1)))),(((IntKind.i64.wrap (x0.Floor+1)))),t8.1,t8.2.1,t8.2.2))else some (((IntKind.i64.wrap (x0.Rev+1)),x0.Floor,t1.1,t4.1,a5)))
def a36:AFn:=⟨50,[(.cell 6 (some 6))],
 (.seq (.reg [sq 3 (.box (.t 0)),
sq 5 (.box (.t 2)),
sq 6 (.zbox [dI 0,dI 0,dI 0,dN,dN,dN])])
 (.seq (.reg [sq 8 (.load (some 6) (.t 3)),
sq 9 (.call 32 [(.t 8)]),
su (.store 6 (.t 3) (.t 9))])
 (.seq (.reg [sq 10 (.fieldA 0 (.t 3)),
sq 11 (.load none (.t 10)),
sq 12 (.bin .add (.t 11) (kI 1)),
sq 13 (.fieldA 0 (.t 3)),
⟨none,none,.store 1 (.t 13) (.t 12),[],(.lone [3,10,3])⟩])
 (.seq (.regd [sq 14 (.fieldA 0 (.t 3)),
sd 15 (.load none (.t 14)) [0],
sq 16 (.mv (.t 1)),
sq 17 (.load (some 23) (.t 5)),
zn 18 (.call 34 [(.t 17)]) [3] [3],
sd 19 (.build [dI 0,dI 0,dS ⟨#[]⟩,dS ⟨#[]⟩,dS ⟨#[]⟩,dI 0,dI 0,dI 0,dI 0,dB false,dI 0,dN,dN,dN,dN,dI 0,dI 0,dS ⟨#[]⟩,dN,dN,dI 0,dI 0,dS ⟨#[]⟩,dN,dN] [(0,1,(.t 15)),(1,1,(.t 16)),(2,23,(.t 18))]) [0,1,2,3,4],
sq 7 (.zbox [dI 0,dI 0,dS ⟨#[]⟩,dS ⟨#[]⟩,dS ⟨#[]⟩,dI 0,dI 0,dI 0,dI 0,dB false,dI 0,dN,dN,dN,dN,dI 0,dI 0,dS ⟨#[]⟩,dN,dN,dI 0,dI 0,dS ⟨#[]⟩,dN,dN]),
⟨none,none,.store 25 (.t 7) (.t 19),[0,1,2,3,4,5,6],(.lone [])⟩])
 (.seq (.regd [sq 21 (.fieldA 4 (.t 3)),
sd 22 (.load none (.t 21)) [0],
sq 23 (.fieldA 0 (.t 3)),
sd 24 (.load none (.t 23)) [2],
sq 25 (.mv (.t 1)),
sq 26 (.load (some 23) (.t 5)),
zl 27 (.call 34 [(.t 26)]) [5] [3,21,3,23],
zl 28 (.build [dI 0,dI 0,dS ⟨#[]⟩,dS ⟨#[]⟩,dS ⟨#[]⟩,dI 0,dI 0,dI 0,dI 0,dB false,dI 0,dN,dN,dN,dN,dI 0,dI 0,dS ⟨#[]⟩,dN,dN,dI 0,dI 0,dS ⟨#[]⟩,dN,dN] [(0,1,(.t 24)),(1,1,(.t 25)),(2,23,(.t 27))]) [2,3,4,5,6] [3,21],
zl 29 (.call 45 [(.t 22),(.t 28)]) [0,1,2,3,4,5,6,7] [],
sd 20 (.mv (.t 29)) [0,1,2,3,4,5,6,7,8],
sd 30 (.ext (.t 20) 0) [0,1,2,3,4,5,6,7,8,9],
sd 31 (.ext (.t 20) 1) [0,1,2,3,4,5,6,7,8,9],
sd 32 (.fieldA 4 (.t 3)) [0,1,2,3,4,5,6,7,8,9,10],
⟨none,none,.store 1 (.t 32) (.t 30),[0,1,2,3,4,5,6,7,8,9,10,12],(.lone [])⟩])
 (.seq (.reg [sq 33 (.fieldA 5 (.t 3)),
sq 34 (.load none (.t 33)),
sq 35 (.load (some 25) (.t 7)),
sq 36 (.bslice 25 [(.t 35)]),
sq 37 (.app 25 368 (.t 34) (.t 36)),
sq 38 (.fieldA 5 (.t 3)),
su (.store 1 (.t 38) (.t 37))])
 (.seq (.seq (.reg [sq 39 (.fieldA 5 (.t 3)),
sq 40 (.load none (.t 39)),
sq 41 (.len (.t 40)),
sq 42 (.bin .gtr (.t 41) (kI 4000))])
 (.cond (.t 42)
 (.reg [sq 43 (.load (some 6) (.t 3)),
sq 44 (.fieldA 1 (.t 3)),
sq 45 (.load none (.t 44)),
sq 46 (.bin .add (.t 45) (kI 1)),
sq 47 (.call 49 [(.t 43),(.t 46)]),
sq 48 (.call 32 [(.t 47)]),
su (.store 6 (.t 3) (.t 48))])
 .skip))
 (.seq (.reg [sq 49 (.load (some 6) (.t 3)),
⟨none,none,.store 6 (.t 6) (.t 49),[],(.lone [3])⟩])
 .ret))))))))⟩
theorem a36_ok:afn Try.prog 36=some a36.er:=by kernel_rfl
theorem F36_ok{x0 x1 x2 r}(h:F36 x0 x1 x2=some r):CallD Try.prog 36 [.agg [dI x0.Rev,dI x0.Floor,dI x0.NextUid,dM (x0.Base.map eObject),dM (x0.Objects.map eObject),dM (x0.History.map eChange)],.c (dI x1),.agg [dS x2.Meta.Kind,dS x2.Meta.Namespace,dS x2.Meta.Name,dI x2.Meta.Uid,dI x2.Meta.Version,dI x2.Meta.Generation,dI x2.Meta.Created,dB x2.Meta.Deleting,dI x2.Meta.DeleteAt,dM (x2.Meta.Labels.map eLabel),dM (x2.Meta.Owners.map eOwner),dM (x2.Meta.Finalizers.map eS),dM (x2.Meta.Managers.map eManager),dI x2.Spec.Kind,dI x2.Spec.N,dS x2.Spec.S,dM (x2.Spec.List_.map eTValue),dM (x2.Spec.Fields.map eTField),dI x2.Status.Kind,dI x2.Status.N,dS x2.Status.S,dM (x2.Status.List_.map eTValue),dM (x2.Status.Fields.map eTField)]] [] (tupV [.agg [dI r.1,dI r.2.1,dI x0.NextUid,.own 0 0 0 (r.2.2.1.length) none,.own 1 0 0 (r.2.2.2.1.length) none,.own 2 0 0 (r.2.2.2.2.length) none]]) [some (.arr 0 23 (r.2.2.1.map eObject)),some (.arr 0 23 (r.2.2.2.1.map eObject)),some (.arr 0 25 (r.2.2.2.2.map eChange))]:=by
 refine callS a36_ok (by simp[a36]) ?_
 rw[F36]at h
 simp only[a36,VW.down,Nat.reduceEqDiff,reduceCtorEq,Nat.reduceAdd,Nat.reduceLeDiff,Nat.reduceLT,Nat.reduceBEq,Nat.reduceSub,EE.down]
 obtain⟨t1,ht1,h⟩:=bi h
 refine cN [] (F32_ok ht1) trivial (ww ?_)
 obtain⟨t2,ht2,h⟩:=bi h
 refine cN [] (F34_ok ht2) trivial (ww ?_)
 refine kD_new (by simp[wrs,allW,hset]) (ww ?_)
 refine kD_new (by simp[wrs,allW,hset]) (ww ?_)
 obtain⟨t3,ht3,h⟩:=bi h
 refine cN [] (F34_ok ht3) trivial (ww ?_)
 obtain⟨t4,ht4,h⟩:=bi h
 refine callX_gen (as1:=[.c (.own 4 0 0 (t1.2.1.length) none),.agg [dI ((IntKind.i64.wrap (x0.Rev+1))),dI x1,dS x2.Meta.Kind,dS x2.Meta.Namespace,dS x2.Meta.Name,dI x2.Meta.Uid,dI x2.Meta.Version,dI x2.Meta.Generation,dI x2.Meta.Created,dB x2.Meta.Deleting,dI x2.Meta.DeleteAt,dM (t3.1.map eLabel),dM (t3.2.1.map eOwner),dM (t3.2.2.1.map eS),dM (t3.2.2.2.1.map eManager),dI t3.2.2.2.2.1,dI t3.2.2.2.2.2.1,dS t3.2.2.2.2.2.2.1,dM (t3.2.2.2.2.2.2.2.1.map eTValue),dM (t3.2.2.2.2.2.2.2.2.1.map eTField),dI t3.2.2.2.2.2.2.2.2.2.1,dI t3.2.2.2.2.2.2.2.2.2.2.1,dS t3.2.2.2.2.2.2.2.2.2.2.2.1,dM (t3.2.2.2.2.2.2.2.2.2.2.2.2.1.map eTValue),dM (t3.2.2.2.2.2.2.2.2.2.2.2.2.2.map eTField)]]) [(11,.arr 1 2 []),(12,.arr 1 5 []),(13,.arr 1 1 []),(14,.arr 1 2 [])] [some 0,some 1,some 2,some 3,some 4,some 5,some 6,some 7,some 8,some 9,some 10,none,none,none,none] [4] (F45_ok (e0:=0) ht4) ⟨?_,rfl,?_⟩ ?_ ?_ ?_ ?_ ?_ ?_ ?_ ?_
 ·simp only[ZZ.down,Nat.reduceEqDiff,reduceCtorEq,Nat.reduceAdd,Nat.reduceLeDiff,Nat.reduceLT,Nat.reduceBNe,EE.down]
 ·simp only[ZZ.down,Nat.reduceEqDiff,reduceCtorEq,Nat.reduceAdd,Nat.reduceLeDiff,Nat.reduceLT,Nat.reduceBNe,EE.down]
 ·simp only[ZZ.down,Nat.reduceEqDiff,reduceCtorEq,Nat.reduceAdd,Nat.reduceLeDiff,Nat.reduceLT,Nat.reduceBNe,EE.down]
 ·rfl
 ·rfl
 ·simp[liveAll,A1.live,C.live,hp]
 ·rfl
 ·decide
 ·exact⟨⟨rfl,trivial⟩,trivial⟩
 refine ww ?_
 refine t_bslice (enc:=eChange) (ys:=[(⟨(IntKind.i64.wrap (x0.Rev+1)),x1,(⟨(⟨x2.Meta.Kind,x2.Meta.Namespace,x2.Meta.Name,x2.Meta.Uid,x2.Meta.Version,x2.Meta.Generation,x2.Meta.Created,x2.Meta.Deleting,x2.Meta.DeleteAt,t2.1,t2.2.1,t2.2.2.1,t2.2.2.2.1⟩:Meta),(⟨t2.2.2.2.2.1,t2.2.2.2.2.2.1,t2.2.2.2.2.2.2.1,t2.2.2.2.2.2.2.2.1,t2.2.2.2.2.2.2.2.2.1⟩:TValue),(⟨t2.2.2.2.2.2.2.2.2.2.1,t2.2.2.2.2.2.2.2.2.2.2.1,t2.2.2.2.2.2.2.2.2.2.2.2.1,t2.2.2.2.2.2.2.2.2.2.2.2.2.1,t2.2.2.2.2.2.2.2.2.2.2.2.2.2⟩:TValue)⟩:Object)⟩:Change)]) rfl rfl (by simp[A1.cells]) (by first|rfl|(simp only[List.drop_zero,take_mapL];rfl)|(simp only[lit,List.map_cons,List.map_nil,List.drop_zero,take_mapL,EE.down];done)|(simp only[lit,List.map_cons,List.map_nil,List.drop_zero,take_mapL,EE.down];rfl)) (ww ?_)
 obtain⟨a5,ha5,h⟩:=bi h
 refine t_app (enc:=eChange) (xs:=t1.2.2) rfl rfl (by first|rfl|simp only[List.length_set]|exact(clrL_len (slI_len (by assumption))).symm) rfl (rows_full (enc:=eChange) (by first|rfl|simp only[List.length_set]|exact(clrL_len (slI_len (by assumption))).symm) rfl) ha5 (ww ?_)
 refine condSh h (fun c6 h=>?_) (fun c6 h=>?_)
 ·refine ww ?_
  obtain⟨t7,ht7,h⟩:=bi h
  refine callX_gen (as1:=[.agg [dI ((IntKind.i64.wrap (x0.Rev+1))),dI x0.Floor,dI x0.NextUid,dM (t1.1.map eObject),dM (t4.1.map eObject),dM (a5.map eChange)],.c (dI ((IntKind.i64.wrap (x0.Floor+1))))]) [(3,.arr 1 23 []),(4,.arr 3 23 []),(5,.arr 2 25 []),(0,.box [dI ((IntKind.i64.wrap (x0.Rev+1))),dI x0.Floor,dI x0.NextUid,.own 3 0 0 0 (some 0),.own 4 2 0 0 (some 0),.own 5 1 0 0 (some 0)]),(10,.box [dI ((IntKind.i64.wrap (x0.Rev+1))),dI x1,dS x2.Meta.Kind,dS x2.Meta.Namespace,dS x2.Meta.Name,dI x2.Meta.Uid,dI x2.Meta.Version,dI x2.Meta.Generation,dI x2.Meta.Created,dB x2.Meta.Deleting,dI x2.Meta.DeleteAt,.own 6 0 0 0 (some 0),.own 7 0 0 0 (some 0),.own 8 0 0 0 (some 0),.own 9 0 0 0 (some 0),dI t2.2.2.2.2.1,dI t2.2.2.2.2.2.1,dS t2.2.2.2.2.2.2.1,dM (t2.2.2.2.2.2.2.2.1.map eTValue),dM (t2.2.2.2.2.2.2.2.2.1.map eTField),dI t2.2.2.2.2.2.2.2.2.2.1,dI t2.2.2.2.2.2.2.2.2.2.2.1,dS t2.2.2.2.2.2.2.2.2.2.2.2.1,dM (t2.2.2.2.2.2.2.2.2.2.2.2.2.1.map eTValue),dM (t2.2.2.2.2.2.2.2.2.2.2.2.2.2.map eTField)])] [some 0,some 1,some 2,none,none,none,some 6,some 7,some 8,some 9,some 10,some 11,some 12,some 13,some 14,some 15] [] (F49_ok ht7) ⟨?_,rfl,?_⟩ ?_ ?_ ?_ ?_ ?_ ?_ ?_ ?_
  ·simp only[ZZ.down,Nat.reduceEqDiff,reduceCtorEq,Nat.reduceAdd,Nat.reduceLeDiff,Nat.reduceLT,Nat.reduceBNe,EE.down]
  ·simp only[ZZ.down,Nat.reduceEqDiff,reduceCtorEq,Nat.reduceAdd,Nat.reduceLeDiff,Nat.reduceLT,Nat.reduceBNe,EE.down]
  ·simp only[ZZ.down,Nat.reduceEqDiff,reduceCtorEq,Nat.reduceAdd,Nat.reduceLeDiff,Nat.reduceLT,Nat.reduceBNe,EE.down]
  ·rfl
  ·rfl
  ·simp[liveAll,A1.live,C.live]
  ·rfl
  ·decide
  ·exact trivial
  refine ww ?_
  obtain⟨t8,ht8,h⟩:=bi h
  refine callX_gen (as1:=[.agg [dI (((IntKind.i64.wrap (x0.Rev+1)))),dI (((IntKind.i64.wrap (x0.Floor+1)))),dI x0.NextUid,dM (t7.1.map eObject),dM (t4.1.map eObject),dM (t7.2.map eChange)]]) [(16,.arr 1 23 [])] [some 0,some 1,some 2,some 3,some 4,some 5,some 6,some 7,some 8,some 9,some 10,some 11,some 12,some 13,some 14,some 15,none] [] (F32_ok ht8) ⟨?_,rfl,?_⟩ ?_ ?_ ?_ ?_ ?_ ?_ ?_ ?_
  ·simp only[ZZ.down,Nat.reduceEqDiff,reduceCtorEq,Nat.reduceAdd,Nat.reduceLeDiff,Nat.reduceLT,Nat.reduceBNe,EE.down]
  ·simp only[ZZ.down,Nat.reduceEqDiff,reduceCtorEq,Nat.reduceAdd,Nat.reduceLeDiff,Nat.reduceLT,Nat.reduceBNe,EE.down]
  ·simp only[ZZ.down,Nat.reduceEqDiff,reduceCtorEq,Nat.reduceAdd,Nat.reduceLeDiff,Nat.reduceLT,Nat.reduceBNe,EE.down]
  ·rfl
  ·rfl
  ·simp[liveAll,A1.live,C.live]
  ·rfl
  ·decide
  ·exact trivial
  refine ww ?_
  cases h
  exact eF [some 17,some 18,some 19]
 refine ww ?_
 cases h
 exact eF [some 3,some 4,some 5]
def F16(x0:TStore)(x1:Int):Option ((List Object)×Int):=(((if x1<0 then some true else some (decide (x0.Rev<x1)))).bind fun o1=>(if o1=true then some (([],5))else(if x1<x0.Floor then some (([],10))else(F48 x0 x1).bind fun t5=>(F47 t5).bind fun t6=>some ((t6,0)))))
def a16:AFn:=⟨24,[(.tmp 4),(.tmp 5)],
 (.seq (.reg [sq 2 (.box (.t 0)),
sq 4 (.mv kN),
sq 5 (.mv (kI 0))])
 (.seq (.block 0 (.seq (.sem (.reg [sq 7 (.mv (.t 1)),
sq 8 (.bin .lss (.t 7) (kI 0)),
sq 9 (.mv (.t 8)),
zg 10 9 false (.mv (.t 1)),
zg 11 9 false (.fieldA 0 (.t 2)),
zg 12 9 false (.load none (.t 11)),
zg 13 9 false (.bin .gtr (.t 10) (.t 12)),
sq 14 (.pick (.t 9) (kB true) (.t 13)),
sq 6 (.mv (.t 14))]))
 (.cond (.t 6)
 (.seq (.reg [sq 4 (.mv kN),
sq 5 (.mv (kI 5))])
 .ret)
 (.seq (.reg [sq 16 (.mv (.t 1)),
sq 17 (.fieldA 1 (.t 2)),
sq 18 (.load none (.t 17)),
sq 19 (.bin .lss (.t 16) (.t 18)),
sq 15 (.mv (.t 19))])
 (.cond (.t 15)
 (.seq (.reg [sq 4 (.mv kN),
sq 5 (.mv (kI 10))])
 .ret)
 .skip)))))
 (.seq (.reg [sq 20 (.load (some 6) (.t 2)),
sq 21 (.mv (.t 1)),
sq 22 (.call 48 [(.t 20),(.t 21)]),
sq 23 (.call 47 [(.t 22)]),
sq 4 (.mv (.t 23)),
sq 5 (.mv (kI 0))])
 .ret)))⟩
theorem a16_ok:afn Try.prog 16=some a16.er:=by kernel_rfl
theorem F16_ok{x0 x1 r}(h:F16 x0 x1=some r):CallD Try.prog 16 [.agg [dI x0.Rev,dI x0.Floor,dI x0.NextUid,dM (x0.Base.map eObject),dM (x0.Objects.map eObject),dM (x0.History.map eChange)],.c (dI x1)] [] (tupV [.c (.own 0 0 0 (r.1.length) none),.c (dI r.2)]) [some (.arr 0 23 (r.1.map eObject))]:=by
 refine callS a16_ok (by simp[a16]) ?_
 rw[F16]at h
 simp only[a16,VW.down,Nat.reduceEqDiff,reduceCtorEq,Nat.reduceAdd,Nat.reduceLeDiff,Nat.reduceLT,Nat.reduceBEq,Nat.reduceSub,EE.down]
 obtain⟨o1,ho,h⟩:=bi h
 refine cutS (fun s=>s=⟨[(1,.one (.c (dI x1))),(2,.one (.c (.pt 0 0))),(6,.one (.c (dB o1)))],[some (.box [dI x0.Rev,dI x0.Floor,dI x0.NextUid,dM (x0.Base.map eObject),dM (x0.Objects.map eObject),dM (x0.History.map eChange)])]⟩) ?_ ?_
 ·have h:=ho
  clear ho
  refine ww ?_
  refine guardSh h (fun g2 h=>?_) (fun g2 h=>?_)
  ·refine ww ?_
   cases h
   exact eM [some 0] rfl
  refine ww ?_
  cases h
  exact eM [some 0] rfl
 rintro _ rfl
 clear ho
 refine ww ?_
 refine condBh h (fun c3 h=>?_) (fun c3 h=>?_)
 ·refine ww ?_
  cases h
  exact eF [none]
 refine ww ?_
 refine condSh h (fun c4 h=>?_) (fun c4 h=>?_)
 ·refine ww ?_
  cases h
  exact eF [none]
 refine ww ?_
 obtain⟨t5,ht5,h⟩:=bi h
 refine cN [] (F48_ok ht5) trivial (ww ?_)
 obtain⟨t6,ht6,h⟩:=bi h
 refine callX_gen (as1:=[.c (dM (t5.map eObject))]) [(1,.arr 1 23 [])] [some 0,none] [] (F47_ok ht6) ⟨?_,rfl,?_⟩ ?_ ?_ ?_ ?_ ?_ ?_ ?_ ?_
 ·simp only[ZZ.down,Nat.reduceEqDiff,reduceCtorEq,Nat.reduceAdd,Nat.reduceLeDiff,Nat.reduceLT,Nat.reduceBNe,EE.down]
 ·simp only[ZZ.down,Nat.reduceEqDiff,reduceCtorEq,Nat.reduceAdd,Nat.reduceLeDiff,Nat.reduceLT,Nat.reduceBNe,EE.down]
 ·simp only[ZZ.down,Nat.reduceEqDiff,reduceCtorEq,Nat.reduceAdd,Nat.reduceLeDiff,Nat.reduceLT,Nat.reduceBNe,EE.down]
 ·rfl
 ·rfl
 ·simp[liveAll,A1.live,C.live]
 ·rfl
 ·decide
 ·exact trivial
 refine ww ?_
 cases h
 exact eF [some 2]
def F19(x0:TStore)(x1:Int):Option (Int×(List Object)×(List Object)×(List Change)×Int):=(((if x1<x0.Floor then some true else some (decide (x0.Rev<x1)))).bind fun o1=>(if o1=true then(F32 x0).bind fun t4=>some ((x0.Floor,t4.1,t4.2.1,t4.2.2,5))else(F49 x0 x1).bind fun t5=>(F32 ((⟨x0.Rev,x1,x0.NextUid,t5.1,x0.Objects,t5.2⟩:TStore))).bind fun t6=>some ((x1,t6.1,t6.2.1,t6.2.2,0))))
def a19:AFn:=⟨22,[(.cell 4 (some 6)),(.tmp 5)],
 (.seq (.reg [sq 2 (.box (.t 0)),
sq 4 (.zbox [dI 0,dI 0,dI 0,dN,dN,dN]),
sq 5 (.mv (kI 0))])
 (.seq (.seq (.sem (.reg [sq 6 (.mv (.t 1)),
sq 7 (.fieldA 1 (.t 2)),
sq 8 (.load none (.t 7)),
sq 9 (.bin .lss (.t 6) (.t 8)),
sq 10 (.mv (.t 9)),
zg 11 10 false (.mv (.t 1)),
zg 12 10 false (.fieldA 0 (.t 2)),
zg 13 10 false (.load none (.t 12)),
zg 14 10 false (.bin .gtr (.t 11) (.t 13)),
zl 15 (.pick (.t 10) (kB true) (.t 14)) [] [2,7,2,12]]))
 (.cond (.t 15)
 (.seq (.reg [sq 16 (.load (some 6) (.t 2)),
sq 17 (.call 32 [(.t 16)]),
su (.store 6 (.t 4) (.t 17)),
sq 5 (.mv (kI 5))])
 .ret)
 .skip))
 (.seq (.reg [sq 18 (.load (some 6) (.t 2)),
sq 19 (.mv (.t 1)),
sq 20 (.call 49 [(.t 18),(.t 19)]),
sq 21 (.call 32 [(.t 20)]),
su (.store 6 (.t 4) (.t 21)),
sq 5 (.mv (kI 0))])
 .ret)))⟩
theorem a19_ok:afn Try.prog 19=some a19.er:=by kernel_rfl
theorem F19_ok{x0 x1 r}(h:F19 x0 x1=some r):CallD Try.prog 19 [.agg [dI x0.Rev,dI x0.Floor,dI x0.NextUid,dM (x0.Base.map eObject),dM (x0.Objects.map eObject),dM (x0.History.map eChange)],.c (dI x1)] [] (tupV [.agg [dI x0.Rev,dI r.1,dI x0.NextUid,.own 0 0 0 (r.2.1.length) none,.own 1 0 0 (r.2.2.1.length) none,.own 2 0 0 (r.2.2.2.1.length) none],.c (dI r.2.2.2.2)]) [some (.arr 0 23 (r.2.1.map eObject)),some (.arr 0 23 (r.2.2.1.map eObject)),some (.arr 0 25 (r.2.2.2.1.map eChange))]:=by
 refine callS a19_ok (by simp[a19]) ?_
 rw[F19]at h
 simp only[a19,VW.down,Nat.reduceEqDiff,reduceCtorEq,Nat.reduceAdd,Nat.reduceLeDiff,Nat.reduceLT,Nat.reduceBEq,Nat.reduceSub,EE.down]
 obtain⟨o1,ho,h⟩:=bi h
 refine cutS (fun s=>s=⟨[(1,.one (.c (dI x1))),(2,.one (.c (.pt 0 0))),(4,.one (.c (.pt 1 0))),(15,.one (.c (dB o1)))],[some (.box [dI x0.Rev,dI x0.Floor,dI x0.NextUid,dM (x0.Base.map eObject),dM (x0.Objects.map eObject),dM (x0.History.map eChange)]),some (.box [dI 0,dI 0,dI 0,dN,dN,dN])]⟩) ?_ ?_
 ·have h:=ho
  clear ho
  refine ww ?_
  refine guardSh h (fun g2 h=>?_) (fun g2 h=>?_)
  ·refine ww ?_
   cases h
   exact eM [some 0,some 1] rfl
  refine ww ?_
  cases h
  exact eM [some 0,some 1] rfl
 rintro _ rfl
 clear ho
 refine ww ?_
 refine condBh h (fun c3 h=>?_) (fun c3 h=>?_)
 ·refine ww ?_
  obtain⟨t4,ht4,h⟩:=bi h
  refine cN [] (F32_ok ht4) trivial (ww ?_)
  cases h
  exact eF [some 2,some 3,some 4]
 refine ww ?_
 obtain⟨t5,ht5,h⟩:=bi h
 refine cN [] (F49_ok ht5) trivial (ww ?_)
 obtain⟨t6,ht6,h⟩:=bi h
 refine callX_gen (as1:=[.agg [dI x0.Rev,dI x1,dI x0.NextUid,dM (t5.1.map eObject),dM (x0.Objects.map eObject),dM (t5.2.map eChange)]]) [(2,.arr 1 23 [])] [some 0,some 1,none] [] (F32_ok ht6) ⟨?_,rfl,?_⟩ ?_ ?_ ?_ ?_ ?_ ?_ ?_ ?_
 ·simp only[ZZ.down,Nat.reduceEqDiff,reduceCtorEq,Nat.reduceAdd,Nat.reduceLeDiff,Nat.reduceLT,Nat.reduceBNe,EE.down]
 ·simp only[ZZ.down,Nat.reduceEqDiff,reduceCtorEq,Nat.reduceAdd,Nat.reduceLeDiff,Nat.reduceLT,Nat.reduceBNe,EE.down]
 ·simp only[ZZ.down,Nat.reduceEqDiff,reduceCtorEq,Nat.reduceAdd,Nat.reduceLeDiff,Nat.reduceLT,Nat.reduceBNe,EE.down]
 ·rfl
 ·rfl
 ·simp[liveAll,A1.live,C.live]
 ·rfl
 ·decide
 ·exact trivial
 refine ww ?_
 cases h
 exact eF [some 3,some 4,some 5]
end Go.Proofs.Ytbopaemngpbdgaa
