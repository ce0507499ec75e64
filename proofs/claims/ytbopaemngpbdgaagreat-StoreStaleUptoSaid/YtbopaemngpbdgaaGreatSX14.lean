/- Each Go function as a function over typed data, and its walk. -/
import Derived.Test.YtbopaemngpbdgaaGreatSX
import Derived.Test.YtbopaemngpbdgaaGreatSX2
import Derived.Test.YtbopaemngpbdgaaGreatSX3
import Derived.Test.YtbopaemngpbdgaaGreatSX5
import Derived.Test.YtbopaemngpbdgaaGreatSX13
namespace Go.Proofs.YtbopaemngpbdgaaGreat
open Go Go.Fw Go.Shelf
set_option maxRecDepth 100000
set_option maxHeartbeats 4000000
set_option linter.unusedSimpArgs false
set_option linter.unusedVariables false
def F77(x0:TValue):Option (TValue):=(F102 ([x0])).bind fun t1=>(rdI t1.1 0).bind fun y2=>some y2
def a77:AFn:=⟨9,[(.cell 2 (some 5))],
 (.seq (.reg [sq 1 (.box (.t 0)),
sq 2 (.zbox [dI 0,dI 0,dS ⟨#[]⟩,dN,dN])])
 (.seq (.reg [sq 3 (.load (some 5) (.t 1)),
sq 4 (.bslice 5 [(.t 3)]),
sq 5 (.call 102 [(.t 4)]),
sq 6 (.field 3 none (.t 5)),
sq 7 (.indexA 5 (.t 6) (kI 0)),
sq 8 (.load (some 5) (.t 7)),
su (.store 5 (.t 2) (.t 8))])
 .ret))⟩
theorem a77_ok:afn Tryz.prog 77=some a77.er:=by kernel_rfl
theorem F77_ok{x0 r}(h:F77 x0=some r):CallD Tryz.prog 77 [.agg [dI x0.Kind,dI x0.N,dS x0.S,dM (x0.List_.map eTValue),dM (x0.Fields.map eTField)]] [] (tupV [.agg [dI ((r).Kind),dI ((r).N),dS ((r).S),dM (((r).List_).map eTValue),dM (((r).Fields).map eTField)]]) []:=by
 refine callS a77_ok (by simp[a77]) ?_
 rw[F77]at h
 simp only[a77,VW.down,Nat.reduceEqDiff,reduceCtorEq,Nat.reduceAdd,Nat.reduceLeDiff,Nat.reduceLT,Nat.reduceBEq,Nat.reduceSub,EE.down]
 refine t_bslice (enc:=eTValue) (ys:=[x0]) rfl rfl (by simp[A1.cells]) (by first|rfl|(simp only[List.drop_zero,take_mapL];rfl)|(simp only[lit,List.map_cons,List.map_nil,List.drop_zero,take_mapL,EE.down];done)|(simp only[lit,List.map_cons,List.map_nil,List.drop_zero,take_mapL,EE.down];rfl)) (ww ?_)
 obtain⟨t1,ht1,h⟩:=bi h
 refine callX_gen (as1:=[.c (dM (([x0]).map eTValue))]) [(2,.arr 1 5 [])] [some 0,some 1,none] [] (F102_ok ht1) ⟨?_,rfl,?_⟩ ?_ ?_ ?_ ?_ ?_ ?_ ?_ ?_
 ·simp only[ZZ.down,Nat.reduceEqDiff,reduceCtorEq,Nat.reduceAdd,Nat.reduceLeDiff,Nat.reduceLT,Nat.reduceBNe,EE.down]
 ·simp only[ZZ.down,Nat.reduceEqDiff,reduceCtorEq,Nat.reduceAdd,Nat.reduceLeDiff,Nat.reduceLT,Nat.reduceBNe,EE.down]
 ·simp only[ZZ.down,Nat.reduceEqDiff,reduceCtorEq,Nat.reduceAdd,Nat.reduceLeDiff,Nat.reduceLT,Nat.reduceBNe,EE.down]
 ·rfl
 ·rfl
 ·simp[liveAll,A1.live,C.live]
 ·rfl
 ·decide
 ·exact trivial
 refine ww ?_
 obtain⟨y2,hy2,h⟩:=bi h
 refine t_idxO (enc:=eTValue) (xs:=t1.1) rfl rfl rfl (by first|rfl|simp only[List.length_set]|exact(clrL_len (slI_len (by assumption))).symm) hy2 (ww ?_)
 refine LdRow.rd (rdI_some hy2).2.1 (ww ?_)
 cases h
 exact eF []
def F36_l5:List Manager→Nat→(List Manager)→Option ((List Manager))
 |[],o5_1,o5_0=>some o5_0
 |xo5::xs,o5_1,o5_0=>(rdI o5_0 ((o5_1:Int))).bind fun y7=>(cloneI y7.Fields).bind fun t8=>(rdI o5_0 ((o5_1:Int))).bind fun y9=>F36_l5 xs (o5_1+1) ((o5_0.set ((o5_1:Int)).toNat ((⟨y9.Name,t8⟩:Manager))))
def F36(x0:Object):Option ((List Label)×(List Owner)×(List ByteArray)×(List Manager)×Int×Int×ByteArray×((List TValue))×((List TField))×Int×Int×ByteArray×((List TValue))×((List TField))):=(cloneI x0.Meta.Labels).bind fun t1=>(cloneI x0.Meta.Owners).bind fun t2=>(cloneI x0.Meta.Finalizers).bind fun t3=>(cloneI x0.Meta.Managers).bind fun t4=>(((ck (0≤t4.length∧t4.length≤4294967290)).bind fun u10=>F36_l5 t4 0 t4).bind fun o5=>(F77 x0.Spec).bind fun t11=>(F77 x0.Status).bind fun t12=>some ((t1,t2,t3,o5,(t11).Kind,(t11).N,(t11).S,(t11).List_,(t11).Fields,(t12).Kind,(t12).N,(t12).S,(t12).List_,(t12).Fields)))
def a36:AFn:=⟨72,[(.cell 2 (some 23))],
 (.seq (.reg [sq 1 (.box (.t 0)),
sq 2 (.zbox [dS ⟨#[]⟩,dS ⟨#[]⟩,dS ⟨#[]⟩,dI 0,dI 0,dI 0,dI 0,dB false,dI 0,dN,dN,dN,dN,dI 0,dI 0,dS ⟨#[]⟩,dN,dN,dI 0,dI 0,dS ⟨#[]⟩,dN,dN])])
 (.seq (.reg [sq 5 (.fieldA 0 (.t 1)),
sq 3 (.mv (.t 5))])
 (.seq (.regd [sq 6 (.mv (.t 3)),
sq 7 (.mv (.t 3)),
sq 8 (.mv (.t 3)),
sq 9 (.mv (.t 3)),
sq 10 (.mv (.t 3)),
sd 11 (.fieldA 0 (.t 10)) [4],
sd 12 (.fieldA 9 (.t 11)) [4,5],
sd 13 (.load none (.t 12)) [4,5,6],
zn 14 (.call 73 [(.t 13)]) [4,5,6,7] [4,5,6,7],
sq 15 (.mv (.t 3)),
sd 16 (.fieldA 0 (.t 15)) [9],
sd 17 (.fieldA 10 (.t 16)) [9,10],
sd 18 (.load none (.t 17)) [9,10,11],
zn 19 (.call 74 [(.t 18)]) [4,5,6,7,8,9,10,11,12] [4,5,6,7,8,9,10,11,12],
sq 20 (.mv (.t 3)),
sd 21 (.fieldA 0 (.t 20)) [14],
sd 22 (.fieldA 11 (.t 21)) [14,15],
sd 23 (.load none (.t 22)) [14,15,16],
zn 24 (.call 75 [(.t 23)]) [4,5,6,7,8,9,10,11,12,13,14,15,16,17] [4,5,6,7,8,9,10,11,12,13,14,15,16,17],
sq 25 (.mv (.t 3)),
sd 26 (.fieldA 0 (.t 25)) [19],
sd 27 (.fieldA 12 (.t 26)) [19,20],
sd 28 (.load none (.t 27)) [19,20,21],
zl 29 (.call 76 [(.t 28)]) [4,5,6,7,8,9,10,11,12,13,14,15,16,17,18,19,20,21,22] [],
sd 30 (.fieldA 0 (.t 6)) [0,4,5,6,7,8,9,10,11,12,13,14,15,16,17,18,19,20,21,22,23],
sd 31 (.fieldA 9 (.t 30)) [0,4,5,6,7,8,9,10,11,12,13,14,15,16,17,18,19,20,21,22,23,24],
⟨none,none,.store 1 (.t 31) (.t 14),[0,4,5,6,7,8,9,10,11,12,13,14,15,16,17,18,19,20,21,22,23,24,25],(.lone [])⟩,
sd 32 (.fieldA 0 (.t 7)) [0,1,4,5,6,7,8,9,10,11,12,13,14,15,16,17,18,19,20,21,22,23,24,25,26],
sd 33 (.fieldA 10 (.t 32)) [0,1,4,5,6,7,8,9,10,11,12,13,14,15,16,17,18,19,20,21,22,23,24,25,26,27],
⟨none,none,.store 1 (.t 33) (.t 19),[0,1,4,5,6,7,8,9,10,11,12,13,14,15,16,17,18,19,20,21,22,23,24,25,26,27,28],(.lone [])⟩,
sd 34 (.fieldA 0 (.t 8)) [0,1,2,4,5,6,7,8,9,10,11,12,13,14,15,16,17,18,19,20,21,22,23,24,25,26,27,28,29],
sd 35 (.fieldA 11 (.t 34)) [0,1,2,4,5,6,7,8,9,10,11,12,13,14,15,16,17,18,19,20,21,22,23,24,25,26,27,28,29,30],
⟨none,none,.store 1 (.t 35) (.t 24),[0,1,2,4,5,6,7,8,9,10,11,12,13,14,15,16,17,18,19,20,21,22,23,24,25,26,27,28,29,30,31],(.lone [])⟩,
sd 36 (.fieldA 0 (.t 9)) [0,1,2,3,4,5,6,7,8,9,10,11,12,13,14,15,16,17,18,19,20,21,22,23,24,25,26,27,28,29,30,31,32],
sd 37 (.fieldA 12 (.t 36)) [0,1,2,3,4,5,6,7,8,9,10,11,12,13,14,15,16,17,18,19,20,21,22,23,24,25,26,27,28,29,30,31,32,33],
⟨none,none,.store 1 (.t 37) (.t 29),[0,1,2,3,4,5,6,7,8,9,10,11,12,13,14,15,16,17,18,19,20,21,22,23,24,25,26,27,28,29,30,31,32,33,34],(.lone [])⟩])
 (.seq (.seq (.reg [sq 38 (.mv (.t 3)),
sq 39 (.fieldA 0 (.t 38)),
sq 40 (.fieldA 12 (.t 39)),
sq 41 (.load none (.t 40)),
sq 42 (.len (.t 41)),
sq 43 (.mv (kI 0))])
 (.sem (.block 0 (.loop (.seq (.reg [sq 44 (.bin .lss (.t 43) (.t 42))])
 (.seq (.cond (.t 44)
 .skip
 (.exit 0))
 (.seq (.block 1 (.seq (.reg [sq 45 (.mv (.t 43)),
sq 4 (.mv (.t 45))])
 (.regd [sq 46 (.mv (.t 3)),
sd 47 (.fieldA 0 (.t 46)) [0],
sd 48 (.fieldA 12 (.t 47)) [0,1],
sd 49 (.load none (.t 48)) [0,1,2],
sq 50 (.mv (.t 4)),
sq 51 (.mv (.t 3)),
sd 52 (.fieldA 0 (.t 51)) [5],
sd 53 (.fieldA 12 (.t 52)) [5,6],
sd 54 (.load none (.t 53)) [5,6,7],
sq 55 (.mv (.t 4)),
sd 56 (.indexA 2 (.t 54) (.t 55)) [5,6,7,8,9],
sd 57 (.fieldA 1 (.t 56)) [5,6,7,8,9,10],
sd 58 (.load none (.t 57)) [5,6,7,8,9,10,11],
zl 59 (.call 75 [(.t 58)]) [5,6,7,8,9,10,11,12] [46,47,48],
sd 60 (.indexA 2 (.t 49) (.t 50)) [0,1,2,3,4,5,6,7,8,9,10,11,12,13],
sd 61 (.fieldA 1 (.t 60)) [0,1,2,3,4,5,6,7,8,9,10,11,12,13,14],
⟨none,none,.store 1 (.t 61) (.t 59),[0,1,2,3,4,5,6,7,8,9,10,11,12,13,14,15],(.lone [])⟩])))
 (.reg [sq 62 (.bin .add (.t 43) (kI 1)),
sq 43 (.mv (.t 62))]))))))))
 (.seq (.regd [sq 63 (.fieldA 13 (.t 1)),
sd 64 (.load (some 5) (.t 63)) [0],
zn 65 (.call 77 [(.t 64)]) [0,1] [0,1],
sq 66 (.fieldA 18 (.t 1)),
sd 67 (.load (some 5) (.t 66)) [3],
zl 68 (.call 77 [(.t 67)]) [0,1,2,3,4] [],
sd 69 (.fieldA 13 (.t 1)) [0,1,2,3,4,5],
⟨none,none,.store 5 (.t 69) (.t 65),[0,1,2,3,4,5,6],(.lone [])⟩,
sd 70 (.fieldA 18 (.t 1)) [0,1,2,3,4,5,6,7],
⟨none,none,.store 5 (.t 70) (.t 68),[0,1,2,3,4,5,6,7,8],(.lone [])⟩])
 (.seq (.reg [sq 71 (.load (some 23) (.t 1)),
⟨none,none,.store 23 (.t 2) (.t 71),[],(.lone [1])⟩])
 .ret))))))⟩
theorem a36_ok:afn Tryz.prog 36=some a36.er:=by kernel_rfl
theorem F36_ok{x0 r}(h:F36 x0=some r):CallD Tryz.prog 36 [.agg [dS x0.Meta.Kind,dS x0.Meta.Namespace,dS x0.Meta.Name,dI x0.Meta.Uid,dI x0.Meta.Version,dI x0.Meta.Generation,dI x0.Meta.Created,dB x0.Meta.Deleting,dI x0.Meta.DeleteAt,dM (x0.Meta.Labels.map eLabel),dM (x0.Meta.Owners.map eOwner),dM (x0.Meta.Finalizers.map eS),dM (x0.Meta.Managers.map eManager),dI x0.Spec.Kind,dI x0.Spec.N,dS x0.Spec.S,dM (x0.Spec.List_.map eTValue),dM (x0.Spec.Fields.map eTField),dI x0.Status.Kind,dI x0.Status.N,dS x0.Status.S,dM (x0.Status.List_.map eTValue),dM (x0.Status.Fields.map eTField)]] [] (tupV [.agg [dS x0.Meta.Kind,dS x0.Meta.Namespace,dS x0.Meta.Name,dI x0.Meta.Uid,dI x0.Meta.Version,dI x0.Meta.Generation,dI x0.Meta.Created,dB x0.Meta.Deleting,dI x0.Meta.DeleteAt,.own 0 0 0 (r.1.length) none,.own 1 0 0 (r.2.1.length) none,.own 2 0 0 (r.2.2.1.length) none,.own 3 0 0 (r.2.2.2.1.length) none,dI r.2.2.2.2.1,dI r.2.2.2.2.2.1,dS r.2.2.2.2.2.2.1,dM (r.2.2.2.2.2.2.2.1.map eTValue),dM (r.2.2.2.2.2.2.2.2.1.map eTField),dI r.2.2.2.2.2.2.2.2.2.1,dI r.2.2.2.2.2.2.2.2.2.2.1,dS r.2.2.2.2.2.2.2.2.2.2.2.1,dM (r.2.2.2.2.2.2.2.2.2.2.2.2.1.map eTValue),dM (r.2.2.2.2.2.2.2.2.2.2.2.2.2.map eTField)]]) [some (.arr 0 2 (r.1.map eLabel)),some (.arr 0 5 (r.2.1.map eOwner)),some (.arr 0 1 (r.2.2.1.map eS)),some (.arr 0 2 (r.2.2.2.1.map eManager))]:=by
 refine callS a36_ok (by simp[a36]) ?_
 rw[F36]at h
 simp only[a36,VW.down,Nat.reduceEqDiff,reduceCtorEq,Nat.reduceAdd,Nat.reduceLeDiff,Nat.reduceLT,Nat.reduceBEq,Nat.reduceSub,EE.down]
 obtain⟨t1,ht1,h⟩:=bi h
 refine cN [] (F73_ok ht1) trivial (ww ?_)
 refine kD_new (by simp[wrs,allW,hset]) (ww ?_)
 obtain⟨t2,ht2,h⟩:=bi h
 refine cN [] (F74_ok ht2) trivial (ww ?_)
 refine kD_new (by simp[wrs,allW,hset]) (ww ?_)
 obtain⟨t3,ht3,h⟩:=bi h
 refine cN [] (F75_ok ht3) trivial (ww ?_)
 refine kD_new (by simp[wrs,allW,hset]) (ww ?_)
 obtain⟨t4,ht4,h⟩:=bi h
 refine cN [] (F76_ok ht4) trivial (ww ?_)
 obtain⟨o5,ho,h⟩:=bi h
 refine cutS (fun s=>s=⟨[(1,.one (.c (.pt 0 0))),(2,.one (.c (.pt 5 0)))],[some (.box [dS x0.Meta.Kind,dS x0.Meta.Namespace,dS x0.Meta.Name,dI x0.Meta.Uid,dI x0.Meta.Version,dI x0.Meta.Generation,dI x0.Meta.Created,dB x0.Meta.Deleting,dI x0.Meta.DeleteAt,.own 1 0 0 (t1.length) none,.own 2 0 0 (t2.length) none,.own 3 0 0 (t3.length) none,.own 4 0 0 (o5.length) none,dI x0.Spec.Kind,dI x0.Spec.N,dS x0.Spec.S,dM (x0.Spec.List_.map eTValue),dM (x0.Spec.Fields.map eTField),dI x0.Status.Kind,dI x0.Status.N,dS x0.Status.S,dM (x0.Status.List_.map eTValue),dM (x0.Status.Fields.map eTField)]),some (.arr 0 2 (t1.map eLabel)),some (.arr 0 5 (t2.map eOwner)),some (.arr 0 1 (t3.map eS)),some (.arr 0 2 (o5.map eManager)),some (.box [dS ((⟨#[]⟩:ByteArray)),dS ((⟨#[]⟩:ByteArray)),dS ((⟨#[]⟩:ByteArray)),dI 0,dI 0,dI 0,dI 0,dB false,dI 0,dN,dN,dN,dN,dI 0,dI 0,dS ((⟨#[]⟩:ByteArray)),dN,dN,dI 0,dI 0,dS ((⟨#[]⟩:ByteArray)),dN,dN])]⟩) ?_ ?_
 ·have h:=ho
  clear ho
  obtain⟨_,hk,h⟩:=bi h
  have hk:=ck_some hk
  refine ww ?_
  refine bL (fun j s=>∃(o5_1:Nat) (o5_0:List Manager),(o5_1≤t4.length∧j=t4.length-o5_1)∧s=⟨[(1,.one (.c (.pt 0 0))),(2,.one (.c (.pt 5 0))),(3,.one (.c (.pt 0 0))),(42,.one (.c (dI ((t4.length:Int))))),(43,.one (.c (dI ((o5_1:Int)))))],[some (.box [dS x0.Meta.Kind,dS x0.Meta.Namespace,dS x0.Meta.Name,dI x0.Meta.Uid,dI x0.Meta.Version,dI x0.Meta.Generation,dI x0.Meta.Created,dB x0.Meta.Deleting,dI x0.Meta.DeleteAt,.own 1 0 0 (t1.length) none,.own 2 0 0 (t2.length) none,.own 3 0 0 (t3.length) none,.own 4 0 0 (o5_0.length) none,dI x0.Spec.Kind,dI x0.Spec.N,dS x0.Spec.S,dM (x0.Spec.List_.map eTValue),dM (x0.Spec.Fields.map eTField),dI x0.Status.Kind,dI x0.Status.N,dS x0.Status.S,dM (x0.Status.List_.map eTValue),dM (x0.Status.Fields.map eTField)]),some (.arr 0 2 (t1.map eLabel)),some (.arr 0 5 (t2.map eOwner)),some (.arr 0 1 (t3.map eS)),some (.arr 0 2 (o5_0.map eManager)),some (.box [dS ((⟨#[]⟩:ByteArray)),dS ((⟨#[]⟩:ByteArray)),dS ((⟨#[]⟩:ByteArray)),dI 0,dI 0,dI 0,dI 0,dB false,dI 0,dN,dN,dN,dN,dI 0,dI 0,dS ((⟨#[]⟩:ByteArray)),dN,dN,dI 0,dI 0,dS ((⟨#[]⟩:ByteArray)),dN,dN])]⟩∧F36_l5 (t4.drop o5_1) o5_1 o5_0=some o5) (t4.length-0) [some 0,some 2,some 3,some 4,some 5,some 1] ⟨0,t4,⟨hk.1,rfl⟩,rfl,h⟩ ?_
  rintro _ _ ⟨o5_1,o5_0,⟨hi,rfl⟩,rfl,h⟩
  refine ww ?_
  refine condS (fun c6=>?_) (fun c6=>?_)
  ·obtain⟨xo5,hxo5,hd⟩:=countY (show(o5_1:Int)<(t4.length:Int)from c6)
   rw[hd,F36_l5]at h
   refine ww ?_
   obtain⟨y7,hy7,h⟩:=bi h
   refine t_idxO (enc:=eManager) (xs:=o5_0) rfl rfl rfl (by first|rfl|simp only[List.length_set]|exact(clrL_len (slI_len (by assumption))).symm) hy7 (ww ?_)
   refine LdRow.rd (rdI_some hy7).2.1 (ww ?_)
   obtain⟨t8,ht8,h⟩:=bi h
   refine cN [] (F75_ok ht8) trivial (ww ?_)
   obtain⟨y9,hy9,h⟩:=bi h
   refine t_idxO (enc:=eManager) (xs:=o5_0) rfl rfl rfl (by first|rfl|simp only[List.length_set]|exact(clrL_len (slI_len (by assumption))).symm) hy9 (ww ?_)
   refine StRow.rd (y':=(⟨y9.Name,t8⟩:Manager)) (rdI_some hy9).2.1 (by simp[EE.down]) (by first|rfl|(simp only[bor_full'];rfl)) (ww ?_)
   rw[wrapN (by omega)]
   exact eL' (t4.length-(o5_1+1)) [some 0,some 1,some 2,some 3,some 4,some 5] ⟨o5_1+1,(o5_0.set ((o5_1:Int)).toNat ((⟨y9.Name,t8⟩:Manager))),⟨by omega,rfl⟩,rfl,h⟩ (by omega)
  rw[countN (show¬((o5_1:Int)<(t4.length:Int))from c6),F36_l5]at h
  refine ww ?_
  cases h
  exact eM [some 0,some 1,some 2,some 3,some 4,some 5] rfl
 rintro _ rfl
 clear ho
 refine ww ?_
 obtain⟨t11,ht11,h⟩:=bi h
 refine cN [] (F77_ok ht11) trivial (ww ?_)
 obtain⟨t12,ht12,h⟩:=bi h
 refine cN [] (F77_ok ht12) trivial (ww ?_)
 cases h
 exact eF [some 1,some 2,some 3,some 4]
end Go.Proofs.YtbopaemngpbdgaaGreat
