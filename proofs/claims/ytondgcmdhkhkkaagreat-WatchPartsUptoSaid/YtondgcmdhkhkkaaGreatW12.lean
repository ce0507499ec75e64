/- Each Go function as a function over typed data, and its walk. -/
import Derived.Test.YtondgcmdhkhkkaaGreatW0
import Derived.Test.YtondgcmdhkhkkaaGreatW3
import Derived.Test.YtondgcmdhkhkkaaGreatW5
import Derived.Test.YtondgcmdhkhkkaaGreatW7
import Derived.Test.YtondgcmdhkhkkaaGreatW9
import Derived.Test.YtondgcmdhkhkkaaGreatW10
import Derived.Test.YtondgcmdhkhkkaaGreatW11
namespace Go.Proofs.YtondgcmdhkhkkaaGreat
open Go Go.Fw Go.Shelf
set_option maxRecDepth 100000
set_option maxHeartbeats 4000000
set_option linter.unusedSimpArgs false
set_option linter.unusedVariables false
def F54_l3:List Change→Nat→(List Object)→Option ((List Object))
 |[],o3_1,o3_0=>some o3_0
 |xo3::xs,o3_1,o3_0=>(F85 o3_0 xo3).bind fun t5=>F54_l3 xs (o3_1+1) t5.1
def F54(x0:TStore)(x1:Int):Option ((List Object)):=(cloneI x0.Base).bind fun t1=>(slI x0.History 0 ((IntKind.i64.wrap (x1-x0.Floor)))).bind fun s2=>(((ck (0≤s2.length∧s2.length≤4294967290)).bind fun u6=>F54_l3 s2 0 t1).bind fun o3=>some o3)
def a54:AFn:=⟨31,[(.tmp 4)],
 (.seq (.reg [sq 2 (.box (.t 0)),
sq 4 (.mv kN)])
 (.seq (.reg [sq 8 (.fieldA 3 (.t 2)),
sq 9 (.load none (.t 8)),
sq 10 (.call 84 [(.t 9)]),
sq 5 (.mv (.t 10))])
 (.seq (.seq (.reg [sq 11 (.fieldA 5 (.t 2)),
sq 12 (.load none (.t 11)),
sq 13 (.mv (.t 1)),
sq 14 (.fieldA 1 (.t 2)),
sq 15 (.load none (.t 14)),
sq 16 (.bin .sub (.t 13) (.t 15)),
sq 17 (.slice 25 (.t 12) none (some (.t 16)) none),
sq 18 (.len (.t 17)),
sq 19 (.mv (kI 0))])
 (.sem (.block 0 (.loop (.seq (.reg [sq 20 (.bin .lss (.t 19) (.t 18))])
 (.seq (.cond (.t 20)
 .skip
 (.exit 0))
 (.seq (.block 1 (.seq (.reg [sq 21 (.indexA 25 (.t 17) (.t 19)),
sq 22 (.load (some 25) (.t 21)),
sq 7 (.zbox [dI 0,dI 0,dS ⟨#[]⟩,dS ⟨#[]⟩,dS ⟨#[]⟩,dI 0,dI 0,dI 0,dI 0,dB false,dI 0,dN,dN,dN,dN,dI 0,dI 0,dS ⟨#[]⟩,dN,dN,dI 0,dI 0,dS ⟨#[]⟩,dN,dN]),
su (.store 25 (.t 7) (.t 22))])
 (.reg [sq 24 (.mv (.t 5)),
sq 25 (.load (some 25) (.t 7)),
sq 26 (.call 85 [(.t 24),(.t 25)]),
sq 23 (.mv (.t 26)),
sq 27 (.ext (.t 23) 0),
sq 28 (.ext (.t 23) 1),
sq 5 (.mv (.t 27))])))
 (.reg [sq 29 (.bin .add (.t 19) (kI 1)),
sq 19 (.mv (.t 29))]))))))))
 (.seq (.reg [sq 30 (.mv (.t 5)),
sq 4 (.mv (.t 30))])
 .ret))))⟩
theorem a54_ok:afn Tryz.prog 54=some a54.er:=by kernel_rfl
theorem F54_ok{x0 x1 r}(h:F54 x0 x1=some r):CallD Tryz.prog 54 [.agg [dI x0.Rev,dI x0.Floor,dI x0.NextUid,dM (x0.Base.map eObject),dM (x0.Objects.map eObject),dM (x0.History.map eChange)],.c (dI x1)] [] (tupV [.c (.own 0 0 0 (r.length) none)]) [some (.arr 0 23 (r.map eObject))]:=by
 refine callS a54_ok (by simp[a54]) ?_
 rw[F54]at h
 simp only[a54,VW.down,Nat.reduceEqDiff,reduceCtorEq,Nat.reduceAdd,Nat.reduceLeDiff,Nat.reduceLT,Nat.reduceBEq,Nat.reduceSub,EE.down]
 obtain⟨t1,ht1,h⟩:=bi h
 refine cN [] (F84_ok ht1) trivial (ww ?_)
 obtain⟨s2,hs2,h⟩:=bi h
 refine t_slice (enc:=eChange) (xs:=x0.History) rfl rfl rfl (fun _=>rfl) hs2 (ww ?_)
 obtain⟨o3,ho,h⟩:=bi h
 refine cutS (fun s=>s=⟨[(5,.one (.c (.own 0 0 0 (o3.length) none)))],[some (.arr 0 23 (o3.map eObject))]⟩) ?_ ?_
 ·have h:=ho
  clear ho
  obtain⟨_,hk,h⟩:=bi h
  have hk:=ck_some hk
  refine ww ?_
  refine bL (fun j s=>∃(o3_1:Nat) (o3_0:List Object),(o3_1≤s2.length∧j=s2.length-o3_1)∧s=⟨[(5,.one (.c (.own 0 0 0 (o3_0.length) none))),(17,.one (.c (dM (s2.map eChange)))),(18,.one (.c (dI ((s2.length:Int))))),(19,.one (.c (dI ((o3_1:Int)))))],[some (.arr 0 23 (o3_0.map eObject))]⟩∧F54_l3 (s2.drop o3_1) o3_1 o3_0=some o3) (s2.length-0) [some 1] ⟨0,t1,⟨hk.1,rfl⟩,rfl,h⟩ ?_
  rintro _ _ ⟨o3_1,o3_0,⟨hi,rfl⟩,rfl,h⟩
  refine ww ?_
  refine condS (fun c4=>?_) (fun c4=>?_)
  ·obtain⟨xo3,hxo3,hd⟩:=countY (show(o3_1:Int)<(s2.length:Int)from c4)
   rw[hd,F54_l3]at h
   refine ww ?_
   refine t_idxF (enc:=eChange) (xs:=s2) rfl rfl hxo3 rfl (ww ?_)
   obtain⟨t5,ht5,h⟩:=bi h
   refine cN [0] (F85_ok (e0:=0) ht5) ⟨⟨rfl,trivial⟩,trivial⟩ ?_
   refine ww ?_
   rw[wrapN (by omega)]
   exact eL' (s2.length-(o3_1+1)) [some 0] ⟨o3_1+1,t5.1,⟨by omega,rfl⟩,rfl,h⟩ (by omega)
  rw[countN (show¬((o3_1:Int)<(s2.length:Int))from c4),F54_l3]at h
  refine ww ?_
  cases h
  exact eM [some 0] rfl
 rintro _ rfl
 clear ho
 refine ww ?_
 cases h
 exact eF [some 0]
def F61(x0:TStore)(x1:Int):Option ((List Object)×((List Change))):=(F54 x0 x1).bind fun t1=>(slI x0.History ((IntKind.i64.wrap (x1-x0.Floor))) ((x0.History.length:Int))).bind fun s2=>some ((t1,s2))
def a61:AFn:=⟨20,[(.cell 4 (some 6))],
 (.seq (.reg [sq 2 (.box (.t 0)),
sq 4 (.zbox [dI 0,dI 0,dI 0,dN,dN,dN])])
 (.seq (.regd [sq 5 (.load (some 6) (.t 2)),
sq 6 (.mv (.t 1)),
zn 7 (.call 54 [(.t 5),(.t 6)]) [0,1] [0,1],
sq 8 (.fieldA 5 (.t 2)),
sd 9 (.load none (.t 8)) [3],
sq 10 (.mv (.t 1)),
sq 11 (.fieldA 1 (.t 2)),
sd 12 (.load none (.t 11)) [6],
sd 13 (.bin .sub (.t 10) (.t 12)) [5,6,7],
sd 14 (.slice 25 (.t 9) (some (.t 13)) none none) [3,4,5,6,7,8],
sq 15 (.mv (.t 1)),
sd 16 (.fieldA 3 (.t 2)) [0,1,2,3,4,6,7],
⟨none,none,.store 1 (.t 16) (.t 7),[0,1,2,3,4,6,7,11],(.lone [9])⟩,
sd 17 (.fieldA 5 (.t 2)) [0,1,2,3,4,5,6,7,8,9,11,12],
⟨none,none,.store 1 (.t 17) (.t 14),[0,1,2,3,4,5,6,7,8,9,11,12,13],(.lone [])⟩,
sd 18 (.fieldA 1 (.t 2)) [0,1,2,3,4,5,6,7,8,9,10,11,12,13,14],
⟨none,none,.store 1 (.t 18) (.t 15),[0,1,2,3,4,5,6,7,8,9,10,11,12,13,14,15],(.lone [])⟩])
 (.seq (.reg [sq 19 (.load (some 6) (.t 2)),
⟨none,none,.store 6 (.t 4) (.t 19),[],(.lone [2])⟩])
 .ret)))⟩
theorem a61_ok:afn Tryz.prog 61=some a61.er:=by kernel_rfl
theorem F61_ok{x0 x1 r}(h:F61 x0 x1=some r):CallD Tryz.prog 61 [.agg [dI x0.Rev,dI x0.Floor,dI x0.NextUid,dM (x0.Base.map eObject),dM (x0.Objects.map eObject),dM (x0.History.map eChange)],.c (dI x1)] [] (tupV [.agg [dI x0.Rev,dI x1,dI x0.NextUid,.own 0 0 0 (r.1.length) none,dM (x0.Objects.map eObject),dM (r.2.map eChange)]]) [some (.arr 0 23 (r.1.map eObject))]:=by
 refine callS a61_ok (by simp[a61]) ?_
 rw[F61]at h
 simp only[a61,VW.down,Nat.reduceEqDiff,reduceCtorEq,Nat.reduceAdd,Nat.reduceLeDiff,Nat.reduceLT,Nat.reduceBEq,Nat.reduceSub,EE.down]
 obtain⟨t1,ht1,h⟩:=bi h
 refine cN [] (F54_ok ht1) trivial (ww ?_)
 refine kD_new (by simp[wrs,allW,hset]) (ww ?_)
 obtain⟨s2,hs2,h⟩:=bi h
 refine t_slice (enc:=eChange) (xs:=x0.History) rfl rfl rfl (fun _=>rfl) hs2 (ww ?_)
 cases h
 exact eF [some 2]
def F93(x0:TStore)(x1:Int)(x2:Object):Option (Int×Int×(List Object)×(List Object)×(List Change)):=(F60 x0).bind fun t1=>(F83 x2).bind fun t2=>(F83 x2).bind fun t3=>(F85 t1.2.1 ((⟨(IntKind.i64.wrap (x0.Rev+1)),x1,(⟨(⟨x2.Meta.Kind,x2.Meta.Namespace,x2.Meta.Name,x2.Meta.Uid,x2.Meta.Version,x2.Meta.Generation,x2.Meta.Created,x2.Meta.Deleting,x2.Meta.DeleteAt,t3.1,t3.2.1,t3.2.2.1,t3.2.2.2.1⟩:Meta),(⟨t3.2.2.2.2.1,t3.2.2.2.2.2.1,t3.2.2.2.2.2.2.1,t3.2.2.2.2.2.2.2.1,t3.2.2.2.2.2.2.2.2.1⟩:TValue),(⟨t3.2.2.2.2.2.2.2.2.2.1,t3.2.2.2.2.2.2.2.2.2.2.1,t3.2.2.2.2.2.2.2.2.2.2.2.1,t3.2.2.2.2.2.2.2.2.2.2.2.2.1,t3.2.2.2.2.2.2.2.2.2.2.2.2.2⟩:TValue)⟩:Object)⟩:Change))).bind fun t4=>(apI t1.2.2 ([(⟨(IntKind.i64.wrap (x0.Rev+1)),x1,(⟨(⟨x2.Meta.Kind,x2.Meta.Namespace,x2.Meta.Name,x2.Meta.Uid,x2.Meta.Version,x2.Meta.Generation,x2.Meta.Created,x2.Meta.Deleting,x2.Meta.DeleteAt,t2.1,t2.2.1,t2.2.2.1,t2.2.2.2.1⟩:Meta),(⟨t2.2.2.2.2.1,t2.2.2.2.2.2.1,t2.2.2.2.2.2.2.1,t2.2.2.2.2.2.2.2.1,t2.2.2.2.2.2.2.2.2.1⟩:TValue),(⟨t2.2.2.2.2.2.2.2.2.2.1,t2.2.2.2.2.2.2.2.2.2.2.1,t2.2.2.2.2.2.2.2.2.2.2.2.1,t2.2.2.2.2.2.2.2.2.2.2.2.2.1,t2.2.2.2.2.2.2.2.2.2.2.2.2.2⟩:TValue)⟩:Object)⟩:Change)])).bind fun a5=>(if 4000<(a5.length:Int)then(F61 ((⟨(IntKind.i64.wrap (x0.Rev+1)),x0.Floor,x0.NextUid,t1.1,t4.1,a5⟩:TStore)) ((IntKind.i64.wrap (x0.Floor+1)))).bind fun t7=>(F60 ((⟨((IntKind.i64.wrap (x0.Rev+1))),((IntKind.i64.wrap (x0.Floor+1))),x0.NextUid,t7.1,t4.1,t7.2⟩:TStore))).bind fun t8=>some (((((IntKind.i64.wrap (x0.Rev+1)))),(((IntKind.i64.wrap (x0.Floor+1)))),t8.1,t8.2.1,t8.2.2))else some (((IntKind.i64.wrap (x0.Rev+1)),x0.Floor,t1.1,t4.1,a5)))
def a93:AFn:=⟨50,[(.cell 6 (some 6))],
 (.seq (.reg [sq 3 (.box (.t 0)),
sq 5 (.box (.t 2)),
sq 6 (.zbox [dI 0,dI 0,dI 0,dN,dN,dN])])
 (.seq (.reg [sq 8 (.load (some 6) (.t 3)),
sq 9 (.call 60 [(.t 8)]),
su (.store 6 (.t 3) (.t 9))])
 (.seq (.reg [sq 10 (.fieldA 0 (.t 3)),
sq 11 (.load none (.t 10)),
sq 12 (.bin .add (.t 11) (kI 1)),
sq 13 (.fieldA 0 (.t 3)),
⟨none,none,.store 1 (.t 13) (.t 12),[],(.lone [3,10,3])⟩])
 (.seq (.regd [sq 14 (.fieldA 0 (.t 3)),
sd 15 (.load none (.t 14)) [0],
sq 16 (.mv (.t 1)),
sq 17 (.load (some 23) (.t 5)),
zn 18 (.call 83 [(.t 17)]) [3] [3],
sd 19 (.build [dI 0,dI 0,dS ⟨#[]⟩,dS ⟨#[]⟩,dS ⟨#[]⟩,dI 0,dI 0,dI 0,dI 0,dB false,dI 0,dN,dN,dN,dN,dI 0,dI 0,dS ⟨#[]⟩,dN,dN,dI 0,dI 0,dS ⟨#[]⟩,dN,dN] [(0,1,(.t 15)),(1,1,(.t 16)),(2,23,(.t 18))]) [0,1,2,3,4],
sq 7 (.zbox [dI 0,dI 0,dS ⟨#[]⟩,dS ⟨#[]⟩,dS ⟨#[]⟩,dI 0,dI 0,dI 0,dI 0,dB false,dI 0,dN,dN,dN,dN,dI 0,dI 0,dS ⟨#[]⟩,dN,dN,dI 0,dI 0,dS ⟨#[]⟩,dN,dN]),
⟨none,none,.store 25 (.t 7) (.t 19),[0,1,2,3,4,5,6],(.lone [])⟩])
 (.seq (.regd [sq 21 (.fieldA 4 (.t 3)),
sd 22 (.load none (.t 21)) [0],
sq 23 (.fieldA 0 (.t 3)),
sd 24 (.load none (.t 23)) [2],
sq 25 (.mv (.t 1)),
sq 26 (.load (some 23) (.t 5)),
zl 27 (.call 83 [(.t 26)]) [5] [3,21,3,23],
zl 28 (.build [dI 0,dI 0,dS ⟨#[]⟩,dS ⟨#[]⟩,dS ⟨#[]⟩,dI 0,dI 0,dI 0,dI 0,dB false,dI 0,dN,dN,dN,dN,dI 0,dI 0,dS ⟨#[]⟩,dN,dN,dI 0,dI 0,dS ⟨#[]⟩,dN,dN] [(0,1,(.t 24)),(1,1,(.t 25)),(2,23,(.t 27))]) [2,3,4,5,6] [3,21],
zl 29 (.call 85 [(.t 22),(.t 28)]) [0,1,2,3,4,5,6,7] [],
sd 20 (.mv (.t 29)) [0,1,2,3,4,5,6,7,8],
sd 30 (.ext (.t 20) 0) [0,1,2,3,4,5,6,7,8,9],
sd 31 (.ext (.t 20) 1) [0,1,2,3,4,5,6,7,8,9],
sd 32 (.fieldA 4 (.t 3)) [0,1,2,3,4,5,6,7,8,9,10],
⟨none,none,.store 1 (.t 32) (.t 30),[0,1,2,3,4,5,6,7,8,9,10,12],(.lone [])⟩])
 (.seq (.reg [sq 33 (.fieldA 5 (.t 3)),
sq 34 (.load none (.t 33)),
sq 35 (.load (some 25) (.t 7)),
sq 36 (.bslice 25 [(.t 35)]),
sq 37 (.app 25 368 (.t 34) (.t 36)),
sq 38 (.fieldA 5 (.t 3)),
su (.store 1 (.t 38) (.t 37))])
 (.seq (.seq (.reg [sq 39 (.fieldA 5 (.t 3)),
sq 40 (.load none (.t 39)),
sq 41 (.len (.t 40)),
sq 42 (.bin .gtr (.t 41) (kI 4000))])
 (.cond (.t 42)
 (.reg [sq 43 (.load (some 6) (.t 3)),
sq 44 (.fieldA 1 (.t 3)),
sq 45 (.load none (.t 44)),
sq 46 (.bin .add (.t 45) (kI 1)),
sq 47 (.call 61 [(.t 43),(.t 46)]),
sq 48 (.call 60 [(.t 47)]),
su (.store 6 (.t 3) (.t 48))])
 .skip))
 (.seq (.reg [sq 49 (.load (some 6) (.t 3)),
⟨none,none,.store 6 (.t 6) (.t 49),[],(.lone [3])⟩])
 .ret))))))))⟩
theorem a93_ok:afn Tryz.prog 93=some a93.er:=by kernel_rfl
theorem F93_ok{x0 x1 x2 r}(h:F93 x0 x1 x2=some r):CallD Tryz.prog 93 [.agg [dI x0.Rev,dI x0.Floor,dI x0.NextUid,dM (x0.Base.map eObject),dM (x0.Objects.map eObject),dM (x0.History.map eChange)],.c (dI x1),.agg [dS x2.Meta.Kind,dS x2.Meta.Namespace,dS x2.Meta.Name,dI x2.Meta.Uid,dI x2.Meta.Version,dI x2.Meta.Generation,dI x2.Meta.Created,dB x2.Meta.Deleting,dI x2.Meta.DeleteAt,dM (x2.Meta.Labels.map eLabel),dM (x2.Meta.Owners.map eOwner),dM (x2.Meta.Finalizers.map eS),dM (x2.Meta.Managers.map eManager),dI x2.Spec.Kind,dI x2.Spec.N,dS x2.Spec.S,dM (x2.Spec.List_.map eTValue),dM (x2.Spec.Fields.map eTField),dI x2.Status.Kind,dI x2.Status.N,dS x2.Status.S,dM (x2.Status.List_.map eTValue),dM (x2.Status.Fields.map eTField)]] [] (tupV [.agg [dI r.1,dI r.2.1,dI x0.NextUid,.own 0 0 0 (r.2.2.1.length) none,.own 1 0 0 (r.2.2.2.1.length) none,.own 2 0 0 (r.2.2.2.2.length) none]]) [some (.arr 0 23 (r.2.2.1.map eObject)),some (.arr 0 23 (r.2.2.2.1.map eObject)),some (.arr 0 25 (r.2.2.2.2.map eChange))]:=by
 refine callS a93_ok (by simp[a93]) ?_
 rw[F93]at h
 simp only[a93,VW.down,Nat.reduceEqDiff,reduceCtorEq,Nat.reduceAdd,Nat.reduceLeDiff,Nat.reduceLT,Nat.reduceBEq,Nat.reduceSub,EE.down]
 obtain⟨t1,ht1,h⟩:=bi h
 refine cN [] (F60_ok ht1) trivial (ww ?_)
 obtain⟨t2,ht2,h⟩:=bi h
 refine cN [] (F83_ok ht2) trivial (ww ?_)
 refine kD_new (by simp[wrs,allW,hset]) (ww ?_)
 refine kD_new (by simp[wrs,allW,hset]) (ww ?_)
 obtain⟨t3,ht3,h⟩:=bi h
 refine cN [] (F83_ok ht3) trivial (ww ?_)
 obtain⟨t4,ht4,h⟩:=bi h
 refine callX_gen (as1:=[.c (.own 4 0 0 (t1.2.1.length) none),.agg [dI ((IntKind.i64.wrap (x0.Rev+1))),dI x1,dS x2.Meta.Kind,dS x2.Meta.Namespace,dS x2.Meta.Name,dI x2.Meta.Uid,dI x2.Meta.Version,dI x2.Meta.Generation,dI x2.Meta.Created,dB x2.Meta.Deleting,dI x2.Meta.DeleteAt,dM (t3.1.map eLabel),dM (t3.2.1.map eOwner),dM (t3.2.2.1.map eS),dM (t3.2.2.2.1.map eManager),dI t3.2.2.2.2.1,dI t3.2.2.2.2.2.1,dS t3.2.2.2.2.2.2.1,dM (t3.2.2.2.2.2.2.2.1.map eTValue),dM (t3.2.2.2.2.2.2.2.2.1.map eTField),dI t3.2.2.2.2.2.2.2.2.2.1,dI t3.2.2.2.2.2.2.2.2.2.2.1,dS t3.2.2.2.2.2.2.2.2.2.2.2.1,dM (t3.2.2.2.2.2.2.2.2.2.2.2.2.1.map eTValue),dM (t3.2.2.2.2.2.2.2.2.2.2.2.2.2.map eTField)]]) [(11,.arr 1 2 []),(12,.arr 1 5 []),(13,.arr 1 1 []),(14,.arr 1 2 [])] [some 0,some 1,some 2,some 3,some 4,some 5,some 6,some 7,some 8,some 9,some 10,none,none,none,none] [4] (F85_ok (e0:=0) ht4) ⟨?_,rfl,?_⟩ ?_ ?_ ?_ ?_ ?_ ?_ ?_ ?_
 ·simp only[ZZ.down,Nat.reduceEqDiff,reduceCtorEq,Nat.reduceAdd,Nat.reduceLeDiff,Nat.reduceLT,Nat.reduceBNe,EE.down]
 ·simp only[ZZ.down,Nat.reduceEqDiff,reduceCtorEq,Nat.reduceAdd,Nat.reduceLeDiff,Nat.reduceLT,Nat.reduceBNe,EE.down]
 ·simp only[ZZ.down,Nat.reduceEqDiff,reduceCtorEq,Nat.reduceAdd,Nat.reduceLeDiff,Nat.reduceLT,Nat.reduceBNe,EE.down]
 ·rfl
 ·rfl
 ·simp[liveAll,A1.live,C.live,hp]
 ·rfl
 ·decide
 ·exact⟨⟨rfl,trivial⟩,trivial⟩
 refine ww ?_
 refine t_bslice (enc:=eChange) (ys:=[(⟨(IntKind.i64.wrap (x0.Rev+1)),x1,(⟨(⟨x2.Meta.Kind,x2.Meta.Namespace,x2.Meta.Name,x2.Meta.Uid,x2.Meta.Version,x2.Meta.Generation,x2.Meta.Created,x2.Meta.Deleting,x2.Meta.DeleteAt,t2.1,t2.2.1,t2.2.2.1,t2.2.2.2.1⟩:Meta),(⟨t2.2.2.2.2.1,t2.2.2.2.2.2.1,t2.2.2.2.2.2.2.1,t2.2.2.2.2.2.2.2.1,t2.2.2.2.2.2.2.2.2.1⟩:TValue),(⟨t2.2.2.2.2.2.2.2.2.2.1,t2.2.2.2.2.2.2.2.2.2.2.1,t2.2.2.2.2.2.2.2.2.2.2.2.1,t2.2.2.2.2.2.2.2.2.2.2.2.2.1,t2.2.2.2.2.2.2.2.2.2.2.2.2.2⟩:TValue)⟩:Object)⟩:Change)]) rfl rfl (by simp[A1.cells]) (by first|rfl|(simp only[List.drop_zero,take_mapL];rfl)|(simp only[lit,List.map_cons,List.map_nil,List.drop_zero,take_mapL,EE.down];done)|(simp only[lit,List.map_cons,List.map_nil,List.drop_zero,take_mapL,EE.down];rfl)) (ww ?_)
 obtain⟨a5,ha5,h⟩:=bi h
 refine t_app (enc:=eChange) (xs:=t1.2.2) rfl rfl (by first|rfl|simp only[List.length_set]|exact(clrL_len (slI_len (by assumption))).symm) rfl (rows_full (enc:=eChange) (by first|rfl|simp only[List.length_set]|exact(clrL_len (slI_len (by assumption))).symm) rfl) ha5 (ww ?_)
 refine condSh h (fun c6 h=>?_) (fun c6 h=>?_)
 ·refine ww ?_
  obtain⟨t7,ht7,h⟩:=bi h
  refine callX_gen (as1:=[.agg [dI ((IntKind.i64.wrap (x0.Rev+1))),dI x0.Floor,dI x0.NextUid,dM (t1.1.map eObject),dM (t4.1.map eObject),dM (a5.map eChange)],.c (dI ((IntKind.i64.wrap (x0.Floor+1))))]) [(3,.arr 1 23 []),(4,.arr 3 23 []),(5,.arr 2 25 []),(0,.box [dI ((IntKind.i64.wrap (x0.Rev+1))),dI x0.Floor,dI x0.NextUid,.own 3 0 0 0 (some 0),.own 4 2 0 0 (some 0),.own 5 1 0 0 (some 0)]),(10,.box [dI ((IntKind.i64.wrap (x0.Rev+1))),dI x1,dS x2.Meta.Kind,dS x2.Meta.Namespace,dS x2.Meta.Name,dI x2.Meta.Uid,dI x2.Meta.Version,dI x2.Meta.Generation,dI x2.Meta.Created,dB x2.Meta.Deleting,dI x2.Meta.DeleteAt,.own 6 0 0 0 (some 0),.own 7 0 0 0 (some 0),.own 8 0 0 0 (some 0),.own 9 0 0 0 (some 0),dI t2.2.2.2.2.1,dI t2.2.2.2.2.2.1,dS t2.2.2.2.2.2.2.1,dM (t2.2.2.2.2.2.2.2.1.map eTValue),dM (t2.2.2.2.2.2.2.2.2.1.map eTField),dI t2.2.2.2.2.2.2.2.2.2.1,dI t2.2.2.2.2.2.2.2.2.2.2.1,dS t2.2.2.2.2.2.2.2.2.2.2.2.1,dM (t2.2.2.2.2.2.2.2.2.2.2.2.2.1.map eTValue),dM (t2.2.2.2.2.2.2.2.2.2.2.2.2.2.map eTField)])] [some 0,some 1,some 2,none,none,none,some 6,some 7,some 8,some 9,some 10,some 11,some 12,some 13,some 14,some 15] [] (F61_ok ht7) ⟨?_,rfl,?_⟩ ?_ ?_ ?_ ?_ ?_ ?_ ?_ ?_
  ·simp only[ZZ.down,Nat.reduceEqDiff,reduceCtorEq,Nat.reduceAdd,Nat.reduceLeDiff,Nat.reduceLT,Nat.reduceBNe,EE.down]
  ·simp only[ZZ.down,Nat.reduceEqDiff,reduceCtorEq,Nat.reduceAdd,Nat.reduceLeDiff,Nat.reduceLT,Nat.reduceBNe,EE.down]
  ·simp only[ZZ.down,Nat.reduceEqDiff,reduceCtorEq,Nat.reduceAdd,Nat.reduceLeDiff,Nat.reduceLT,Nat.reduceBNe,EE.down]
  ·rfl
  ·rfl
  ·simp[liveAll,A1.live,C.live]
  ·rfl
  ·decide
  ·exact trivial
  refine ww ?_
  obtain⟨t8,ht8,h⟩:=bi h
  refine callX_gen (as1:=[.agg [dI (((IntKind.i64.wrap (x0.Rev+1)))),dI (((IntKind.i64.wrap (x0.Floor+1)))),dI x0.NextUid,dM (t7.1.map eObject),dM (t4.1.map eObject),dM (t7.2.map eChange)]]) [(16,.arr 1 23 [])] [some 0,some 1,some 2,some 3,some 4,some 5,some 6,some 7,some 8,some 9,some 10,some 11,some 12,some 13,some 14,some 15,none] [] (F60_ok ht8) ⟨?_,rfl,?_⟩ ?_ ?_ ?_ ?_ ?_ ?_ ?_ ?_
  ·simp only[ZZ.down,Nat.reduceEqDiff,reduceCtorEq,Nat.reduceAdd,Nat.reduceLeDiff,Nat.reduceLT,Nat.reduceBNe,EE.down]
  ·simp only[ZZ.down,Nat.reduceEqDiff,reduceCtorEq,Nat.reduceAdd,Nat.reduceLeDiff,Nat.reduceLT,Nat.reduceBNe,EE.down]
  ·simp only[ZZ.down,Nat.reduceEqDiff,reduceCtorEq,Nat.reduceAdd,Nat.reduceLeDiff,Nat.reduceLT,Nat.reduceBNe,EE.down]
  ·rfl
  ·rfl
  ·simp[liveAll,A1.live,C.live]
  ·rfl
  ·decide
  ·exact trivial
  refine ww ?_
  cases h
  exact eF [some 17,some 18,some 19]
 refine ww ?_
 cases h
 exact eF [some 3,some 4,some 5]
def F34(x0:TStore)(x1:Filter)(x2:Int):Option (Int):=(F27 x1.Selector).bind fun t1=>(if(nb t1)=true then some 1 else(((if x2<0 then some true else some (decide (x0.Rev<x2)))).bind fun o3=>(if o3=true then some 5 else(if x2<x0.Floor then some 10 else some 0))))
def a34:AFn:=⟨26,[(.tmp 6)],
 (.seq (.reg [sq 3 (.box (.t 0)),
sq 4 (.box (.t 1)),
sq 6 (.mv (kI 0))])
 (.seq (.block 0 (.seq (.reg [sq 8 (.fieldA 2 (.t 4)),
sq 9 (.load none (.t 8)),
sq 10 (.call 27 [(.t 9)]),
sq 11 (.not (.t 10)),
sq 7 (.mv (.t 11))])
 (.cond (.t 7)
 (.seq (.reg [sq 6 (.mv (kI 1))])
 .ret)
 (.seq (.sem (.reg [sq 13 (.mv (.t 2)),
sq 14 (.bin .lss (.t 13) (kI 0)),
sq 15 (.mv (.t 14)),
zg 16 15 false (.mv (.t 2)),
zg 17 15 false (.fieldA 0 (.t 3)),
zg 18 15 false (.load none (.t 17)),
zg 19 15 false (.bin .gtr (.t 16) (.t 18)),
sq 20 (.pick (.t 15) (kB true) (.t 19)),
sq 12 (.mv (.t 20))]))
 (.cond (.t 12)
 (.seq (.reg [sq 6 (.mv (kI 5))])
 .ret)
 (.seq (.reg [sq 22 (.mv (.t 2)),
sq 23 (.fieldA 1 (.t 3)),
sq 24 (.load none (.t 23)),
sq 25 (.bin .lss (.t 22) (.t 24)),
sq 21 (.mv (.t 25))])
 (.cond (.t 21)
 (.seq (.reg [sq 6 (.mv (kI 10))])
 .ret)
 .skip)))))))
 (.seq (.reg [sq 6 (.mv (kI 0))])
 .ret)))⟩
theorem a34_ok:afn Tryz.prog 34=some a34.er:=by kernel_rfl
theorem F34_ok{x0 x1 x2 r}(h:F34 x0 x1 x2=some r):CallD Tryz.prog 34 [.agg [dI x0.Rev,dI x0.Floor,dI x0.NextUid,dM (x0.Base.map eObject),dM (x0.Objects.map eObject),dM (x0.History.map eChange)],.agg [dS x1.Kind,dS x1.Namespace,dM (x1.Selector.map eRequirement)],.c (dI x2)] [] (tupV [.c (dI r)]) []:=by
 refine callS a34_ok (by simp[a34]) ?_
 rw[F34]at h
 simp only[a34,VW.down,Nat.reduceEqDiff,reduceCtorEq,Nat.reduceAdd,Nat.reduceLeDiff,Nat.reduceLT,Nat.reduceBEq,Nat.reduceSub,EE.down]
 obtain⟨t1,ht1,h⟩:=bi h
 refine cN [] (F27_ok ht1) trivial (ww ?_)
 refine condBh h (fun c2 h=>?_) (fun c2 h=>?_)
 ·refine ww ?_
  cases h
  exact eF []
 refine ww ?_
 obtain⟨o3,ho,h⟩:=bi h
 refine cutS (fun s=>s=⟨[(2,.one (.c (dI x2))),(3,.one (.c (.pt 0 0))),(12,.one (.c (dB o3)))],[some (.box [dI x0.Rev,dI x0.Floor,dI x0.NextUid,dM (x0.Base.map eObject),dM (x0.Objects.map eObject),dM (x0.History.map eChange)])]⟩) ?_ ?_
 ·have h:=ho
  clear ho
  refine ww ?_
  refine guardSh h (fun g4 h=>?_) (fun g4 h=>?_)
  ·refine ww ?_
   cases h
   exact eM [some 0] rfl
  refine ww ?_
  cases h
  exact eM [some 0] rfl
 rintro _ rfl
 clear ho
 refine ww ?_
 refine condBh h (fun c5 h=>?_) (fun c5 h=>?_)
 ·refine ww ?_
  cases h
  exact eF []
 refine ww ?_
 refine condSh h (fun c6 h=>?_) (fun c6 h=>?_)
 ·refine ww ?_
  cases h
  exact eF []
 refine ww ?_
 cases h
 exact eF []
def F12(x0:TStore)(x1:Filter)(x2:Int):Option (ByteArray×ByteArray×(List Requirement)×Int×Int):=(F34 x0 x1 x2).bind fun t1=>(if¬(t1=0)then some (((⟨#[]⟩:ByteArray),(⟨#[]⟩:ByteArray),[],0,t1))else(F35 x1).bind fun t3=>some ((x1.Kind,x1.Namespace,t3,x2,0)))
def a12:AFn:=⟨21,[(.cell 6 (some 4)),(.tmp 7)],
 (.seq (.reg [sq 3 (.box (.t 0)),
sq 4 (.box (.t 1)),
sq 6 (.zbox [dS ⟨#[]⟩,dS ⟨#[]⟩,dN,dI 0]),
sq 7 (.mv (kI 0))])
 (.seq (.seq (.reg [sq 9 (.load (some 6) (.t 3)),
sq 10 (.load (some 3) (.t 4)),
sq 11 (.mv (.t 2)),
sq 12 (.call 34 [(.t 9),(.t 10),(.t 11)]),
sq 8 (.mv (.t 12))])
 (.seq (.reg [sq 13 (.mv (.t 8)),
sq 14 (.bin .neq (.t 13) (kI 0))])
 (.cond (.t 14)
 (.seq (.reg [sq 15 (.build [dS ⟨#[]⟩,dS ⟨#[]⟩,dN,dI 0] []),
sq 16 (.mv (.t 8)),
su (.store 4 (.t 6) (.t 15)),
sq 7 (.mv (.t 16))])
 .ret)
 .skip)))
 (.seq (.reg [sq 17 (.load (some 3) (.t 4)),
sq 18 (.call 35 [(.t 17)]),
sq 19 (.mv (.t 2)),
sq 20 (.build [dS ⟨#[]⟩,dS ⟨#[]⟩,dN,dI 0] [(0,3,(.t 18)),(3,1,(.t 19))]),
su (.store 4 (.t 6) (.t 20)),
sq 7 (.mv (kI 0))])
 .ret)))⟩
theorem a12_ok:afn Tryz.prog 12=some a12.er:=by kernel_rfl
theorem F12_ok{x0 x1 x2 r}(h:F12 x0 x1 x2=some r):CallD Tryz.prog 12 [.agg [dI x0.Rev,dI x0.Floor,dI x0.NextUid,dM (x0.Base.map eObject),dM (x0.Objects.map eObject),dM (x0.History.map eChange)],.agg [dS x1.Kind,dS x1.Namespace,dM (x1.Selector.map eRequirement)],.c (dI x2)] [] (tupV [.agg [dS r.1,dS r.2.1,.own 0 0 0 (r.2.2.1.length) none,dI r.2.2.2.1],.c (dI r.2.2.2.2)]) [some (.arr 0 3 (r.2.2.1.map eRequirement))]:=by
 refine callS a12_ok (by simp[a12]) ?_
 rw[F12]at h
 simp only[a12,VW.down,Nat.reduceEqDiff,reduceCtorEq,Nat.reduceAdd,Nat.reduceLeDiff,Nat.reduceLT,Nat.reduceBEq,Nat.reduceSub,EE.down]
 obtain⟨t1,ht1,h⟩:=bi h
 refine cN [] (F34_ok ht1) trivial (ww ?_)
 refine condSh h (fun c2 h=>?_) (fun c2 h=>?_)
 ·refine ww ?_
  cases h
  exact eF [none]
 refine ww ?_
 obtain⟨t3,ht3,h⟩:=bi h
 refine cN [] (F35_ok ht3) trivial (ww ?_)
 cases h
 exact eF [some 3]
def F21(x0:TStore)(x1:Int):Option ((List Object)×Int):=(((if x1<0 then some true else some (decide (x0.Rev<x1)))).bind fun o1=>(if o1=true then some (([],5))else(if x1<x0.Floor then some (([],10))else(F54 x0 x1).bind fun t5=>(F53 t5).bind fun t6=>some ((t6,0)))))
def a21:AFn:=⟨24,[(.tmp 4),(.tmp 5)],
 (.seq (.reg [sq 2 (.box (.t 0)),
sq 4 (.mv kN),
sq 5 (.mv (kI 0))])
 (.seq (.block 0 (.seq (.sem (.reg [sq 7 (.mv (.t 1)),
sq 8 (.bin .lss (.t 7) (kI 0)),
sq 9 (.mv (.t 8)),
zg 10 9 false (.mv (.t 1)),
zg 11 9 false (.fieldA 0 (.t 2)),
zg 12 9 false (.load none (.t 11)),
zg 13 9 false (.bin .gtr (.t 10) (.t 12)),
sq 14 (.pick (.t 9) (kB true) (.t 13)),
sq 6 (.mv (.t 14))]))
 (.cond (.t 6)
 (.seq (.reg [sq 4 (.mv kN),
sq 5 (.mv (kI 5))])
 .ret)
 (.seq (.reg [sq 16 (.mv (.t 1)),
sq 17 (.fieldA 1 (.t 2)),
sq 18 (.load none (.t 17)),
sq 19 (.bin .lss (.t 16) (.t 18)),
sq 15 (.mv (.t 19))])
 (.cond (.t 15)
 (.seq (.reg [sq 4 (.mv kN),
sq 5 (.mv (kI 10))])
 .ret)
 .skip)))))
 (.seq (.reg [sq 20 (.load (some 6) (.t 2)),
sq 21 (.mv (.t 1)),
sq 22 (.call 54 [(.t 20),(.t 21)]),
sq 23 (.call 53 [(.t 22)]),
sq 4 (.mv (.t 23)),
sq 5 (.mv (kI 0))])
 .ret)))⟩
theorem a21_ok:afn Tryz.prog 21=some a21.er:=by kernel_rfl
theorem F21_ok{x0 x1 r}(h:F21 x0 x1=some r):CallD Tryz.prog 21 [.agg [dI x0.Rev,dI x0.Floor,dI x0.NextUid,dM (x0.Base.map eObject),dM (x0.Objects.map eObject),dM (x0.History.map eChange)],.c (dI x1)] [] (tupV [.c (.own 0 0 0 (r.1.length) none),.c (dI r.2)]) [some (.arr 0 23 (r.1.map eObject))]:=by
 refine callS a21_ok (by simp[a21]) ?_
 rw[F21]at h
 simp only[a21,VW.down,Nat.reduceEqDiff,reduceCtorEq,Nat.reduceAdd,Nat.reduceLeDiff,Nat.reduceLT,Nat.reduceBEq,Nat.reduceSub,EE.down]
 obtain⟨o1,ho,h⟩:=bi h
 refine cutS (fun s=>s=⟨[(1,.one (.c (dI x1))),(2,.one (.c (.pt 0 0))),(6,.one (.c (dB o1)))],[some (.box [dI x0.Rev,dI x0.Floor,dI x0.NextUid,dM (x0.Base.map eObject),dM (x0.Objects.map eObject),dM (x0.History.map eChange)])]⟩) ?_ ?_
 ·have h:=ho
  clear ho
  refine ww ?_
  refine guardSh h (fun g2 h=>?_) (fun g2 h=>?_)
  ·refine ww ?_
   cases h
   exact eM [some 0] rfl
  refine ww ?_
  cases h
  exact eM [some 0] rfl
 rintro _ rfl
 clear ho
 refine ww ?_
 refine condBh h (fun c3 h=>?_) (fun c3 h=>?_)
 ·refine ww ?_
  cases h
  exact eF [none]
 refine ww ?_
 refine condSh h (fun c4 h=>?_) (fun c4 h=>?_)
 ·refine ww ?_
  cases h
  exact eF [none]
 refine ww ?_
 obtain⟨t5,ht5,h⟩:=bi h
 refine cN [] (F54_ok ht5) trivial (ww ?_)
 obtain⟨t6,ht6,h⟩:=bi h
 refine callX_gen (as1:=[.c (dM (t5.map eObject))]) [(1,.arr 1 23 [])] [some 0,none] [] (F53_ok ht6) ⟨?_,rfl,?_⟩ ?_ ?_ ?_ ?_ ?_ ?_ ?_ ?_
 ·simp only[ZZ.down,Nat.reduceEqDiff,reduceCtorEq,Nat.reduceAdd,Nat.reduceLeDiff,Nat.reduceLT,Nat.reduceBNe,EE.down]
 ·simp only[ZZ.down,Nat.reduceEqDiff,reduceCtorEq,Nat.reduceAdd,Nat.reduceLeDiff,Nat.reduceLT,Nat.reduceBNe,EE.down]
 ·simp only[ZZ.down,Nat.reduceEqDiff,reduceCtorEq,Nat.reduceAdd,Nat.reduceLeDiff,Nat.reduceLT,Nat.reduceBNe,EE.down]
 ·rfl
 ·rfl
 ·simp[liveAll,A1.live,C.live]
 ·rfl
 ·decide
 ·exact trivial
 refine ww ?_
 cases h
 exact eF [some 2]
def F14_l5(t4:(List Object)×Int)(x1:Watcher):List Object→Nat→(List (ByteArray×Bool))→Option ((List (ByteArray×Bool)))
 |[],o5_1,o5_0=>some o5_0
 |xo5::xs,o5_1,o5_0=>(rdI t4.1 ((o5_1:Int))).bind fun y7=>(F24 y7.Meta).bind fun t8=>(F16 x1.Filter y7).bind fun t9=>F14_l5 t4 x1 xs (o5_1+1) ((putM t8 t9 o5_0))
def F14_l11(t1:(List Requirement))(x1:Watcher)(x2:Int):List Change→Nat→Int→(List (ByteArray×Bool))→(List Event)→Option (((List Requirement)×Int×(List Event)×Int) ⊕ (Int×(List Event)))
 |[],o11_3,o11_0,o11_1,o11_2=>some (Sum.inr ((o11_0,o11_2)))
 |xo11::xs,o11_3,o11_0,o11_1,o11_2=>(((if xo11.Rev≤x1.Rev then some (Sum.inr ((o11_0,o11_1,o11_2)))else(F24 xo11.Object.Meta).bind fun t15=>(F37 x1.Filter xo11 (((getM t15 o11_1).getD false))).bind fun t16=>(((if t16=1 then some ((putM t15 true o11_1))else some ((putM t15 (decide (t16=2)) o11_1)))).bind fun o17=>(if t16=0 then some (Sum.inr ((o11_0,o17,o11_2)))else(F38 xo11.Object).bind fun t20=>(apI o11_2 ([(⟨t16,xo11.Rev,(⟨(⟨xo11.Object.Meta.Kind,xo11.Object.Meta.Namespace,xo11.Object.Meta.Name,xo11.Object.Meta.Uid,xo11.Object.Meta.Version,xo11.Object.Meta.Generation,xo11.Object.Meta.Created,xo11.Object.Meta.Deleting,xo11.Object.Meta.DeleteAt,t20.1,t20.2.1,t20.2.2.1,t20.2.2.2.1⟩:Meta),(⟨t20.2.2.2.2.1,t20.2.2.2.2.2.1,t20.2.2.2.2.2.2.1,t20.2.2.2.2.2.2.2.1,t20.2.2.2.2.2.2.2.2.1⟩:TValue),(⟨t20.2.2.2.2.2.2.2.2.2.1,t20.2.2.2.2.2.2.2.2.2.2.1,t20.2.2.2.2.2.2.2.2.2.2.2.1,t20.2.2.2.2.2.2.2.2.2.2.2.2.1,t20.2.2.2.2.2.2.2.2.2.2.2.2.2⟩:TValue)⟩:Object)⟩:Event)])).bind fun a21=>(if(a21.length:Int)=(if x2<1 then 1 else x2)then((some ((t1,xo11.Rev,a21,0))).map Sum.inl).map Sum.inl else some (Sum.inr ((xo11.Rev,o17,a21))))))):Option ((((List Requirement)×Int×(List Event)×Int) ⊕ (Int×(List Event))) ⊕ (Int×(List (ByteArray×Bool))×(List Event)))).bind fun o13=>match o13 with|Sum.inl f=>some f|Sum.inr po13=>F14_l11 t1 x1 x2 xs (o11_3+1) po13.1 po13.2.1 po13.2.2)
def F14(x0:TStore)(x1:Watcher)(x2:Int):Option ((List Requirement)×Int×(List Event)×Int):=(F35 x1.Filter).bind fun t1=>(F34 x0 x1.Filter x1.Rev).bind fun t2=>(if¬(t2=0)then some ((t1,x1.Rev,[],t2))else(F21 x0 x1.Rev).bind fun t4=>(((ck (0≤t4.1.length∧t4.1.length≤4294967290)).bind fun u10=>F14_l5 t4 x1 t4.1 0 ([])).bind fun o5=>(((ck (0≤x0.History.length∧x0.History.length≤4294967290)).bind fun u23=>F14_l11 t1 x1 x2 x0.History 0 x1.Rev o5 ([]):Option (((List Requirement)×Int×(List Event)×Int) ⊕ (Int×(List Event)))).bind fun o11=>match o11 with|Sum.inl f=>some f|Sum.inr po11=>(((if po11.1<x0.Rev then(apI po11.2 ([(⟨4,x0.Rev,(⟨(⟨(⟨#[]⟩:ByteArray),(⟨#[]⟩:ByteArray),(⟨#[]⟩:ByteArray),0,0,0,0,false,0,[],[],[],[]⟩:Meta),(⟨0,0,(⟨#[]⟩:ByteArray),[],[]⟩:TValue),(⟨0,0,(⟨#[]⟩:ByteArray),[],[]⟩:TValue)⟩:Object)⟩:Event)])).bind fun a26=>some ((x0.Rev,a26))else some ((po11.1,po11.2)))).bind fun o24=>some ((t1,o24.1,o24.2,0))))))
def a14:AFn:=⟨131,[(.cell 6 (some 4)),(.tmp 7),(.tmp 8)],
 (.seq (.reg [sq 3 (.box (.t 0)),
sq 4 (.box (.t 1)),
sq 6 (.zbox [dS ⟨#[]⟩,dS ⟨#[]⟩,dN,dI 0]),
sq 7 (.mv kN),
sq 8 (.mv (kI 0))])
 (.seq (.regd [sq 21 (.fieldA 0 (.t 4)),
sd 22 (.load (some 3) (.t 21)) [0],
zn 23 (.call 35 [(.t 22)]) [0,1] [0,1],
sq 24 (.fieldA 3 (.t 4)),
sd 25 (.load none (.t 24)) [3],
sd 26 (.build [dS ⟨#[]⟩,dS ⟨#[]⟩,dN,dI 0] [(0,3,(.t 23)),(3,1,(.t 25))]) [0,1,2,3,4],
sq 9 (.zbox [dS ⟨#[]⟩,dS ⟨#[]⟩,dN,dI 0]),
⟨none,none,.store 4 (.t 9) (.t 26),[0,1,2,3,4,5,6],(.lone [])⟩])
 (.seq (.seq (.reg [sq 27 (.load (some 6) (.t 3)),
sq 28 (.fieldA 0 (.t 4)),
sq 29 (.load (some 3) (.t 28)),
sq 30 (.fieldA 3 (.t 4)),
sq 31 (.load none (.t 30)),
sq 32 (.call 34 [(.t 27),(.t 29),(.t 31)]),
sq 10 (.mv (.t 32))])
 (.seq (.reg [sq 33 (.mv (.t 10)),
sq 34 (.bin .neq (.t 33) (kI 0))])
 (.cond (.t 34)
 (.seq (.reg [sq 35 (.load (some 4) (.t 9)),
sq 36 (.mv (.t 10)),
su (.store 4 (.t 6) (.t 35)),
sq 7 (.mv kN),
sq 8 (.mv (.t 36))])
 .ret)
 .skip)))
 (.seq (.reg [sq 37 (.mv (.t 2)),
sq 38 (.max (.t 37) (kI 1)),
sq 2 (.mv (.t 38))])
 (.seq (.reg [sq 39 (.mkmap),
sq 11 (.mv (.t 39))])
 (.seq (.reg [sq 41 (.load (some 6) (.t 3)),
sq 42 (.fieldA 3 (.t 4)),
sq 43 (.load none (.t 42)),
sq 44 (.call 21 [(.t 41),(.t 43)]),
sq 40 (.mv (.t 44)),
sq 45 (.ext (.t 40) 0),
sq 46 (.ext (.t 40) 1),
sq 12 (.mv (.t 45)),
sq 13 (.mv (.t 46))])
 (.seq (.seq (.reg [sq 47 (.mv (.t 12)),
sq 48 (.len (.t 47)),
sq 49 (.mv (kI 0))])
 (.sem (.block 0 (.loop (.seq (.reg [sq 50 (.bin .lss (.t 49) (.t 48))])
 (.seq (.cond (.t 50)
 .skip
 (.exit 0))
 (.seq (.block 1 (.seq (.reg [sq 51 (.indexA 23 (.t 47) (.t 49)),
sq 52 (.load (some 23) (.t 51)),
sq 15 (.zbox [dS ⟨#[]⟩,dS ⟨#[]⟩,dS ⟨#[]⟩,dI 0,dI 0,dI 0,dI 0,dB false,dI 0,dN,dN,dN,dN,dI 0,dI 0,dS ⟨#[]⟩,dN,dN,dI 0,dI 0,dS ⟨#[]⟩,dN,dN]),
su (.store 23 (.t 15) (.t 52))])
 (.regd [sq 53 (.mv (.t 11)),
sq 54 (.fieldA 0 (.t 15)),
sd 55 (.load (some 13) (.t 54)) [1],
zn 56 (.call 24 [(.t 55)]) [1,2] [1,2],
sq 57 (.fieldA 0 (.t 4)),
sd 58 (.load (some 3) (.t 57)) [4],
sq 59 (.load (some 23) (.t 15)),
zl 60 (.call 16 [(.t 58),(.t 59)]) [1,2,3,4,5,6] [],
⟨none,none,.mset 1 (.t 53) (.t 56) (.t 60),[0,1,2,3,4,5,6,7],(.lone [])⟩])))
 (.reg [sq 61 (.bin .add (.t 49) (kI 1)),
sq 49 (.mv (.t 61))]))))))))
 (.seq (.reg [sq 16 (.mv kN)])
 (.seq (.seq (.reg [sq 62 (.fieldA 5 (.t 3)),
sq 63 (.load none (.t 62)),
sq 64 (.len (.t 63)),
sq 65 (.mv (kI 0))])
 (.sem (.block 2 (.loop (.seq (.reg [sq 66 (.bin .lss (.t 65) (.t 64))])
 (.seq (.cond (.t 66)
 .skip
 (.exit 2))
 (.seq (.sem (.block 3 (.seq (.reg [sq 67 (.indexA 25 (.t 63) (.t 65)),
sq 68 (.load (some 25) (.t 67)),
sq 18 (.zbox [dI 0,dI 0,dS ⟨#[]⟩,dS ⟨#[]⟩,dS ⟨#[]⟩,dI 0,dI 0,dI 0,dI 0,dB false,dI 0,dN,dN,dN,dN,dI 0,dI 0,dS ⟨#[]⟩,dN,dN,dI 0,dI 0,dS ⟨#[]⟩,dN,dN]),
su (.store 25 (.t 18) (.t 68))])
 (.seq (.seq (.reg [sq 69 (.fieldA 0 (.t 18)),
sq 70 (.load none (.t 69)),
sq 71 (.fieldA 3 (.t 4)),
sq 72 (.load none (.t 71)),
sq 73 (.bin .leq (.t 70) (.t 72))])
 (.cond (.t 73)
 (.exit 3)
 .skip))
 (.seq (.reg [sq 74 (.fieldA 2 (.t 18)),
sq 75 (.fieldA 0 (.t 74)),
sq 76 (.load (some 13) (.t 75)),
sq 77 (.call 24 [(.t 76)]),
sq 19 (.mv (.t 77))])
 (.seq (.reg [sq 78 (.fieldA 0 (.t 4)),
sq 79 (.load (some 3) (.t 78)),
sq 80 (.load (some 25) (.t 18)),
sq 81 (.mv (.t 11)),
sq 82 (.mv (.t 19)),
sq 83 (.mget 1 false (.c (dB false)) (.t 81) (.t 82)),
sq 84 (.call 37 [(.t 79),(.t 80),(.t 83)]),
sq 20 (.mv (.t 84))])
 (.seq (.sem (.reg [sq 85 (.mv (.t 11)),
sq 86 (.mv (.t 19)),
sq 87 (.mv (.t 20)),
sq 88 (.bin .eql (.t 87) (kI 1)),
sq 89 (.mv (.t 88)),
zg 90 89 false (.mv (.t 20)),
zg 91 89 false (.bin .eql (.t 90) (kI 2)),
sq 92 (.pick (.t 89) (kB true) (.t 91)),
su (.mset 1 (.t 85) (.t 86) (.t 92))]))
 (.seq (.seq (.reg [sq 93 (.mv (.t 20)),
sq 94 (.bin .eql (.t 93) (kI 0))])
 (.cond (.t 94)
 (.exit 3)
 .skip))
 (.seq (.regd [sq 95 (.mv (.t 16)),
sq 96 (.mv (.t 20)),
sq 97 (.fieldA 0 (.t 18)),
sd 98 (.load none (.t 97)) [2],
sq 99 (.fieldA 2 (.t 18)),
sd 100 (.load (some 23) (.t 99)) [4],
zl 101 (.call 38 [(.t 100)]) [4,5] [18,97],
zl 102 (.build [dI 0,dI 0,dS ⟨#[]⟩,dS ⟨#[]⟩,dS ⟨#[]⟩,dI 0,dI 0,dI 0,dI 0,dB false,dI 0,dN,dN,dN,dN,dI 0,dI 0,dS ⟨#[]⟩,dN,dN,dI 0,dI 0,dS ⟨#[]⟩,dN,dN] [(0,1,(.t 96)),(1,1,(.t 98)),(2,23,(.t 101))]) [1,2,3,4,5,6] [],
zl 103 (.bslice 25 [(.t 102)]) [1,2,3,4,5,6,7] [],
zl 104 (.app 25 368 (.t 95) (.t 103)) [0,1,2,3,4,5,6,7,8] [],
sd 16 (.mv (.t 104)) [0,1,2,3,4,5,6,7,8,9]])
 (.seq (.reg [sq 105 (.fieldA 0 (.t 18)),
sq 106 (.load none (.t 105)),
sq 107 (.fieldA 3 (.t 9)),
⟨none,none,.store 1 (.t 107) (.t 106),[],(.lone [18,105,9])⟩])
 (.seq (.reg [sq 108 (.mv (.t 16)),
sq 109 (.len (.t 108)),
sq 110 (.mv (.t 2)),
sq 111 (.bin .eql (.t 109) (.t 110))])
 (.cond (.t 111)
 (.seq (.reg [sq 112 (.load (some 4) (.t 9)),
sq 113 (.mv (.t 16)),
su (.store 4 (.t 6) (.t 112)),
sq 7 (.mv (.t 113)),
sq 8 (.mv (kI 0))])
 .ret)
 .skip))))))))))))
 (.reg [sq 114 (.bin .add (.t 65) (kI 1)),
sq 65 (.mv (.t 114))]))))))))
 (.seq (.sem (.seq (.reg [sq 115 (.fieldA 0 (.t 3)),
sq 116 (.load none (.t 115)),
sq 117 (.fieldA 3 (.t 9)),
sq 118 (.load none (.t 117)),
sq 119 (.bin .gtr (.t 116) (.t 118))])
 (.cond (.t 119)
 (.seq (.reg [sq 120 (.mv (.t 16)),
sq 121 (.fieldA 0 (.t 3)),
sq 122 (.load none (.t 121)),
sq 123 (.build [dI 0,dI 0,dS ⟨#[]⟩,dS ⟨#[]⟩,dS ⟨#[]⟩,dI 0,dI 0,dI 0,dI 0,dB false,dI 0,dN,dN,dN,dN,dI 0,dI 0,dS ⟨#[]⟩,dN,dN,dI 0,dI 0,dS ⟨#[]⟩,dN,dN] [(0,1,(kI 4)),(1,1,(.t 122))]),
sq 124 (.bslice 25 [(.t 123)]),
sq 125 (.app 25 368 (.t 120) (.t 124)),
sq 16 (.mv (.t 125))])
 (.reg [sq 126 (.fieldA 0 (.t 3)),
sq 127 (.load none (.t 126)),
sq 128 (.fieldA 3 (.t 9)),
⟨none,none,.store 1 (.t 128) (.t 127),[],(.lone [3,126,9])⟩]))
 .skip)))
 (.seq (.reg [sq 129 (.load (some 4) (.t 9)),
sq 130 (.mv (.t 16)),
su (.store 4 (.t 6) (.t 129)),
sq 7 (.mv (.t 130)),
sq 8 (.mv (kI 0))])
 .ret)))))))))))⟩
theorem a14_ok:afn Tryz.prog 14=some a14.er:=by kernel_rfl
theorem F14_ok{x0 x1 x2 r}(h:F14 x0 x1 x2=some r):CallD Tryz.prog 14 [.agg [dI x0.Rev,dI x0.Floor,dI x0.NextUid,dM (x0.Base.map eObject),dM (x0.Objects.map eObject),dM (x0.History.map eChange)],.agg [dS x1.Filter.Kind,dS x1.Filter.Namespace,dM (x1.Filter.Selector.map eRequirement),dI x1.Rev],.c (dI x2)] [] (tupV [.agg [dS x1.Filter.Kind,dS x1.Filter.Namespace,.own 0 0 0 (r.1.length) none,dI r.2.1],.c (.own 1 0 0 (r.2.2.1.length) none),.c (dI r.2.2.2)]) [some (.arr 0 3 (r.1.map eRequirement)),some (.arr 0 25 (r.2.2.1.map eEvent))]:=by
 refine callS a14_ok (by simp[a14]) ?_
 rw[F14]at h
 simp only[a14,VW.down,Nat.reduceEqDiff,reduceCtorEq,Nat.reduceAdd,Nat.reduceLeDiff,Nat.reduceLT,Nat.reduceBEq,Nat.reduceSub,EE.down]
 obtain⟨t1,ht1,h⟩:=bi h
 refine cN [] (F35_ok ht1) trivial (ww ?_)
 refine kD_new (by simp[wrs,allW,hset]) (ww ?_)
 refine kD_new (by simp[wrs,allW,hset]) (ww ?_)
 obtain⟨t2,ht2,h⟩:=bi h
 refine cN [] (F34_ok ht2) trivial (ww ?_)
 refine condSh h (fun c3 h=>?_) (fun c3 h=>?_)
 ·refine ww ?_
  cases h
  exact eF [some 3,none]
 refine ww ?_
 refine t_mkmap1 (κ:=ByteArray) (α:=Bool) (enc:=(fun x=> .v (.bool x))) Value.string (ww ?_)
 obtain⟨t4,ht4,h⟩:=bi h
 refine cN [] (F21_ok ht4) trivial (ww ?_)
 obtain⟨o5,ho,h⟩:=bi h
 refine cutS (fun s=>s=⟨[(2,.one (.c (dI ((if x2<1 then 1 else x2))))),(3,.one (.c (.pt 0 0))),(4,.one (.c (.pt 1 0))),(6,.one (.c (.pt 2 0))),(9,.one (.c (.pt 3 0))),(11,.one (.c (.mref 5)))],[some (.box [dI x0.Rev,dI x0.Floor,dI x0.NextUid,dM (x0.Base.map eObject),dM (x0.Objects.map eObject),dM (x0.History.map eChange)]),some (.box [dS x1.Filter.Kind,dS x1.Filter.Namespace,dM (x1.Filter.Selector.map eRequirement),dI x1.Rev]),some (.box [dS ((⟨#[]⟩:ByteArray)),dS ((⟨#[]⟩:ByteArray)),dN,dI 0]),some (.box [dS x1.Filter.Kind,dS x1.Filter.Namespace,.own 4 0 0 (t1.length) none,dI x1.Rev]),some (.arr 0 3 (t1.map eRequirement)),some (.map (eM1 Value.string (fun x=> .v (.bool x)) o5))]⟩) ?_ ?_
 ·have h:=ho
  clear ho
  obtain⟨_,hk,h⟩:=bi h
  have hk:=ck_some hk
  refine ww ?_
  refine bL (fun j s=>∃(o5_1:Nat) (o5_0:List (ByteArray×Bool)),(o5_1≤t4.1.length∧j=t4.1.length-o5_1)∧s=⟨[(2,.one (.c (dI ((if x2<1 then 1 else x2))))),(3,.one (.c (.pt 0 0))),(4,.one (.c (.pt 1 0))),(6,.one (.c (.pt 2 0))),(9,.one (.c (.pt 3 0))),(11,.one (.c (.mref 5))),(47,.one (.c (.own 6 0 0 (t4.1.length) none))),(48,.one (.c (dI ((t4.1.length:Int))))),(49,.one (.c (dI ((o5_1:Int)))))],[some (.box [dI x0.Rev,dI x0.Floor,dI x0.NextUid,dM (x0.Base.map eObject),dM (x0.Objects.map eObject),dM (x0.History.map eChange)]),some (.box [dS x1.Filter.Kind,dS x1.Filter.Namespace,dM (x1.Filter.Selector.map eRequirement),dI x1.Rev]),some (.box [dS ((⟨#[]⟩:ByteArray)),dS ((⟨#[]⟩:ByteArray)),dN,dI 0]),some (.box [dS x1.Filter.Kind,dS x1.Filter.Namespace,.own 4 0 0 (t1.length) none,dI x1.Rev]),some (.arr 0 3 (t1.map eRequirement)),some (.map (eM1 Value.string (fun x=> .v (.bool x)) o5_0)),some (.arr 0 23 (t4.1.map eObject))]⟩∧F14_l5 t4 x1 (t4.1.drop o5_1) o5_1 o5_0=some o5) (t4.1.length-0) [some 0,some 1,some 2,some 4,some 3,some 5,some 6] ⟨0,[],⟨hk.1,rfl⟩,rfl,h⟩ ?_
  rintro _ _ ⟨o5_1,o5_0,⟨hi,rfl⟩,rfl,h⟩
  refine ww ?_
  refine condS (fun c6=>?_) (fun c6=>?_)
  ·obtain⟨xo5,hxo5,hd⟩:=countY (show(o5_1:Int)<(t4.1.length:Int)from c6)
   rw[hd,F14_l5]at h
   refine ww ?_
   obtain⟨y7,hy7,h⟩:=bi h
   refine t_idxO (enc:=eObject) (xs:=t4.1) rfl rfl rfl (by first|rfl|simp only[List.length_set]|exact(clrL_len (slI_len (by assumption))).symm) hy7 (ww ?_)
   refine LdRow.rd (rdI_some hy7).2.1 (ww ?_)
   obtain⟨t8,ht8,h⟩:=bi h
   refine cN [] (F24_ok ht8) trivial (ww ?_)
   obtain⟨t9,ht9,h⟩:=bi h
   refine cN [] (F16_ok ht9) trivial (ww ?_)
   refine t_mset1 (enc:=(fun x=> .v (.bool x))) (l:=o5_0) (x:=t9) kkS rfl rfl rfl rfl (ww ?_)
   rw[wrapN (by omega)]
   exact eL' (t4.1.length-(o5_1+1)) [some 0,some 1,some 2,some 3,some 4,some 5,some 6] ⟨o5_1+1,(putM t8 t9 o5_0),⟨by omega,rfl⟩,rfl,h⟩ (by omega)
  rw[countN (show¬((o5_1:Int)<(t4.1.length:Int))from c6),F14_l5]at h
  refine ww ?_
  cases h
  exact eM [some 0,some 1,some 2,some 3,some 4,some 5] rfl
 rintro _ rfl
 clear ho
 refine ww ?_
 obtain⟨o11,ho,h⟩:=bi h
 refine cutS (fun s=>∃po11,o11=Sum.inr po11∧s=⟨[(3,.one (.c (.pt 0 0))),(6,.one (.c (.pt 1 0))),(9,.one (.c (.pt 2 0))),(16,.one (.c (.own 4 0 0 (po11.2.length) none)))],[some (.box [dI x0.Rev,dI x0.Floor,dI x0.NextUid,dM (x0.Base.map eObject),dM (x0.Objects.map eObject),dM (x0.History.map eChange)]),some (.box [dS ((⟨#[]⟩:ByteArray)),dS ((⟨#[]⟩:ByteArray)),dN,dI 0]),some (.box [dS x1.Filter.Kind,dS x1.Filter.Namespace,.own 3 0 0 (t1.length) none,dI po11.1]),some (.arr 0 3 (t1.map eRequirement)),some (.arr 0 25 (po11.2.map eEvent))]⟩) ?_ ?_
 ·have h0o11:=h
  have h:=ho
  clear ho
  obtain⟨_,hk,h⟩:=bi h
  have hk:=ck_some hk
  refine ww ?_
  refine bL (fun j s=>∃(o11_3:Nat) (o11_0:Int) (o11_1:List (ByteArray×Bool)) (o11_2:List Event),(o11_3≤x0.History.length∧j=x0.History.length-o11_3)∧s=⟨[(2,.one (.c (dI ((if x2<1 then 1 else x2))))),(3,.one (.c (.pt 0 0))),(4,.one (.c (.pt 1 0))),(6,.one (.c (.pt 2 0))),(9,.one (.c (.pt 3 0))),(11,.one (.c (.mref 5))),(16,.one (.c (.own 6 0 0 (o11_2.length) none))),(63,.one (.c (dM (x0.History.map eChange)))),(64,.one (.c (dI ((x0.History.length:Int))))),(65,.one (.c (dI ((o11_3:Int)))))],[some (.box [dI x0.Rev,dI x0.Floor,dI x0.NextUid,dM (x0.Base.map eObject),dM (x0.Objects.map eObject),dM (x0.History.map eChange)]),some (.box [dS x1.Filter.Kind,dS x1.Filter.Namespace,dM (x1.Filter.Selector.map eRequirement),dI x1.Rev]),some (.box [dS ((⟨#[]⟩:ByteArray)),dS ((⟨#[]⟩:ByteArray)),dN,dI 0]),some (.box [dS x1.Filter.Kind,dS x1.Filter.Namespace,.own 4 0 0 (t1.length) none,dI o11_0]),some (.arr 0 3 (t1.map eRequirement)),some (.map (eM1 Value.string (fun x=> .v (.bool x)) o11_1)),some (.arr 0 25 (o11_2.map eEvent))]⟩∧F14_l11 t1 x1 x2 (x0.History.drop o11_3) o11_3 o11_0 o11_1 o11_2=some o11) (x0.History.length-0) [some 0,some 1,some 2,some 3,some 4,some 5,none] ⟨0,x1.Rev,o5,[],⟨hk.1,rfl⟩,rfl,h⟩ ?_
  rintro _ _ ⟨o11_3,o11_0,o11_1,o11_2,⟨hi,rfl⟩,rfl,h⟩
  refine ww ?_
  refine condS (fun c12=>?_) (fun c12=>?_)
  ·obtain⟨xo11,hxo11,hd⟩:=countY (show(o11_3:Int)<(x0.History.length:Int)from c12)
   rw[hd,F14_l11]at h
   refine ww ?_
   obtain⟨o13,ho,h⟩:=bi h
   refine cutS (fun s=>∃po13,o13=Sum.inr po13∧s=⟨[(2,.one (.c (dI ((if x2<1 then 1 else x2))))),(3,.one (.c (.pt 0 0))),(4,.one (.c (.pt 1 0))),(6,.one (.c (.pt 2 0))),(9,.one (.c (.pt 3 0))),(11,.one (.c (.mref 5))),(16,.one (.c (.own 6 0 0 (po13.2.2.length) none))),(63,.one (.c (dM (x0.History.map eChange)))),(64,.one (.c (dI ((x0.History.length:Int))))),(65,.one (.c (dI ((o11_3:Int)))))],[some (.box [dI x0.Rev,dI x0.Floor,dI x0.NextUid,dM (x0.Base.map eObject),dM (x0.Objects.map eObject),dM (x0.History.map eChange)]),some (.box [dS x1.Filter.Kind,dS x1.Filter.Namespace,dM (x1.Filter.Selector.map eRequirement),dI x1.Rev]),some (.box [dS ((⟨#[]⟩:ByteArray)),dS ((⟨#[]⟩:ByteArray)),dN,dI 0]),some (.box [dS x1.Filter.Kind,dS x1.Filter.Namespace,.own 4 0 0 (t1.length) none,dI po13.1]),some (.arr 0 3 (t1.map eRequirement)),some (.map (eM1 Value.string (fun x=> .v (.bool x)) po13.2.1)),some (.arr 0 25 (po13.2.2.map eEvent))]⟩) ?_ ?_
   ·have h0o13:=h
    have h:=ho
    clear ho
    refine ww ?_
    refine t_idxF (enc:=eChange) (xs:=x0.History) rfl rfl hxo11 rfl (ww ?_)
    refine condSh h (fun c14 h=>?_) (fun c14 h=>?_)
    ·refine ww ?_
     cases h
     exact eM [some 0,some 1,some 2,some 3,some 4,some 5,some 6] ⟨_,rfl,rfl⟩
    refine ww ?_
    obtain⟨t15,ht15,h⟩:=bi h
    refine cN [] (F24_ok ht15) trivial (ww ?_)
    refine t_mget1 (enc:=(fun x=> .v (.bool x))) (l:=o11_1) (z:=false) kkS rfl rfl rfl rfl (ww ?_)
    obtain⟨t16,ht16,h⟩:=bi h
    refine cN [] (F37_ok ht16) trivial (ww ?_)
    obtain⟨o17,ho,h⟩:=bi h
    refine cutS (fun s=>s=⟨[(2,.one (.c (dI ((if x2<1 then 1 else x2))))),(3,.one (.c (.pt 0 0))),(4,.one (.c (.pt 1 0))),(6,.one (.c (.pt 2 0))),(9,.one (.c (.pt 3 0))),(11,.one (.c (.mref 5))),(16,.one (.c (.own 6 0 0 (o11_2.length) none))),(18,.one (.c (.pt 7 0))),(20,.one (.c (dI t16))),(63,.one (.c (dM (x0.History.map eChange)))),(64,.one (.c (dI ((x0.History.length:Int))))),(65,.one (.c (dI ((o11_3:Int)))))],[some (.box [dI x0.Rev,dI x0.Floor,dI x0.NextUid,dM (x0.Base.map eObject),dM (x0.Objects.map eObject),dM (x0.History.map eChange)]),some (.box [dS x1.Filter.Kind,dS x1.Filter.Namespace,dM (x1.Filter.Selector.map eRequirement),dI x1.Rev]),some (.box [dS ((⟨#[]⟩:ByteArray)),dS ((⟨#[]⟩:ByteArray)),dN,dI 0]),some (.box [dS x1.Filter.Kind,dS x1.Filter.Namespace,.own 4 0 0 (t1.length) none,dI o11_0]),some (.arr 0 3 (t1.map eRequirement)),some (.map (eM1 Value.string (fun x=> .v (.bool x)) o17)),some (.arr 0 25 (o11_2.map eEvent)),some (.box [dI xo11.Rev,dI xo11.Kind,dS xo11.Object.Meta.Kind,dS xo11.Object.Meta.Namespace,dS xo11.Object.Meta.Name,dI xo11.Object.Meta.Uid,dI xo11.Object.Meta.Version,dI xo11.Object.Meta.Generation,dI xo11.Object.Meta.Created,dB xo11.Object.Meta.Deleting,dI xo11.Object.Meta.DeleteAt,dM (xo11.Object.Meta.Labels.map eLabel),dM (xo11.Object.Meta.Owners.map eOwner),dM (xo11.Object.Meta.Finalizers.map eS),dM (xo11.Object.Meta.Managers.map eManager),dI xo11.Object.Spec.Kind,dI xo11.Object.Spec.N,dS xo11.Object.Spec.S,dM (xo11.Object.Spec.List_.map eTValue),dM (xo11.Object.Spec.Fields.map eTField),dI xo11.Object.Status.Kind,dI xo11.Object.Status.N,dS xo11.Object.Status.S,dM (xo11.Object.Status.List_.map eTValue),dM (xo11.Object.Status.Fields.map eTField)])]⟩) ?_ ?_
    ·have h:=ho
     clear ho
     refine ww ?_
     refine guardSh h (fun g18 h=>?_) (fun g18 h=>?_)
     ·refine ww ?_
      refine t_mset1 (enc:=(fun x=> .v (.bool x))) (l:=o11_1) (x:=true) kkS rfl rfl rfl rfl (ww ?_)
      cases h
      exact eM [some 0,some 1,some 2,some 3,some 4,some 5,some 6,some 7] rfl
     refine ww ?_
     refine t_mset1 (enc:=(fun x=> .v (.bool x))) (l:=o11_1) (x:=decide (t16=2)) kkS rfl rfl rfl rfl (ww ?_)
     cases h
     exact eM [some 0,some 1,some 2,some 3,some 4,some 5,some 6,some 7] rfl
    rintro _ rfl
    clear ho
    refine ww ?_
    refine condSh h (fun c19 h=>?_) (fun c19 h=>?_)
    ·refine ww ?_
     cases h
     exact eM [some 0,some 1,some 2,some 3,some 4,some 5,some 6] ⟨_,rfl,rfl⟩
    refine ww ?_
    obtain⟨t20,ht20,h⟩:=bi h
    refine cN [] (F38_ok ht20) trivial (ww ?_)
    refine t_bslice (enc:=eEvent) (ys:=[(⟨t16,xo11.Rev,(⟨(⟨xo11.Object.Meta.Kind,xo11.Object.Meta.Namespace,xo11.Object.Meta.Name,xo11.Object.Meta.Uid,xo11.Object.Meta.Version,xo11.Object.Meta.Generation,xo11.Object.Meta.Created,xo11.Object.Meta.Deleting,xo11.Object.Meta.DeleteAt,t20.1,t20.2.1,t20.2.2.1,t20.2.2.2.1⟩:Meta),(⟨t20.2.2.2.2.1,t20.2.2.2.2.2.1,t20.2.2.2.2.2.2.1,t20.2.2.2.2.2.2.2.1,t20.2.2.2.2.2.2.2.2.1⟩:TValue),(⟨t20.2.2.2.2.2.2.2.2.2.1,t20.2.2.2.2.2.2.2.2.2.2.1,t20.2.2.2.2.2.2.2.2.2.2.2.1,t20.2.2.2.2.2.2.2.2.2.2.2.2.1,t20.2.2.2.2.2.2.2.2.2.2.2.2.2⟩:TValue)⟩:Object)⟩:Event)]) rfl rfl (by simp[A1.cells]) (by first|rfl|(simp only[List.drop_zero,take_mapL];rfl)|(simp only[lit,List.map_cons,List.map_nil,List.drop_zero,take_mapL,EE.down];done)|(simp only[lit,List.map_cons,List.map_nil,List.drop_zero,take_mapL,EE.down];rfl)) (ww ?_)
    obtain⟨a21,ha21,h⟩:=bi h
    refine t_app (enc:=eEvent) (xs:=o11_2) rfl rfl (by first|rfl|simp only[List.length_set]|exact(clrL_len (slI_len (by assumption))).symm) rfl (rows_full (enc:=eEvent) (by first|rfl|simp only[List.length_set]|exact(clrL_len (slI_len (by assumption))).symm) rfl) ha21 (ww ?_)
    refine condSh h (fun c22 h=>?_) (fun c22 h=>?_)
    ·refine ww ?_
     obtain⟨fh0o13,hfh0o13,rfl⟩:=Option.map_eq_some_iff.1 h
     have h:=hfh0o13.trans h0o13
     obtain⟨fh0o11,hfh0o11,rfl⟩:=Option.map_eq_some_iff.1 h
     have h:=hfh0o11.trans h0o11
     cases h
     exact eF [some 4,some 6]
    refine ww ?_
    cases h
    exact eM [some 0,some 1,some 2,some 3,some 4,some 5,some 6] ⟨_,rfl,rfl⟩
   rintro _ ⟨po13,rfl,rfl⟩
   clear ho
   dsimp only at h
   refine ww ?_
   rw[wrapN (by omega)]
   exact eL' (x0.History.length-(o11_3+1)) [some 0,some 1,some 2,some 3,some 4,some 5,some 6] ⟨o11_3+1,po13.1,po13.2.1,po13.2.2,⟨by omega,rfl⟩,rfl,h⟩ (by omega)
  rw[countN (show¬((o11_3:Int)<(x0.History.length:Int))from c12),F14_l11]at h
  refine ww ?_
  cases h
  exact eM [some 0,some 2,some 3,some 4,some 6] ⟨_,rfl,rfl⟩
 rintro _ ⟨po11,rfl,rfl⟩
 clear ho
 dsimp only at h
 refine ww ?_
 obtain⟨o24,ho,h⟩:=bi h
 refine cutS (fun s=>s=⟨[(6,.one (.c (.pt 0 0))),(9,.one (.c (.pt 1 0))),(16,.one (.c (.own 3 0 0 (o24.2.length) none)))],[some (.box [dS ((⟨#[]⟩:ByteArray)),dS ((⟨#[]⟩:ByteArray)),dN,dI 0]),some (.box [dS x1.Filter.Kind,dS x1.Filter.Namespace,.own 2 0 0 (t1.length) none,dI o24.1]),some (.arr 0 3 (t1.map eRequirement)),some (.arr 0 25 (o24.2.map eEvent))]⟩) ?_ ?_
 ·have h:=ho
  clear ho
  refine ww ?_
  refine condSh h (fun c25 h=>?_) (fun c25 h=>?_)
  ·refine ww ?_
   refine t_bslice (enc:=eEvent) (ys:=[(⟨4,x0.Rev,(⟨(⟨(⟨#[]⟩:ByteArray),(⟨#[]⟩:ByteArray),(⟨#[]⟩:ByteArray),0,0,0,0,false,0,[],[],[],[]⟩:Meta),(⟨0,0,(⟨#[]⟩:ByteArray),[],[]⟩:TValue),(⟨0,0,(⟨#[]⟩:ByteArray),[],[]⟩:TValue)⟩:Object)⟩:Event)]) rfl rfl (by simp[A1.cells]) (by first|rfl|(simp only[List.drop_zero,take_mapL];rfl)|(simp only[lit,List.map_cons,List.map_nil,List.drop_zero,take_mapL,EE.down];done)|(simp only[lit,List.map_cons,List.map_nil,List.drop_zero,take_mapL,EE.down];rfl)) (ww ?_)
   obtain⟨a26,ha26,h⟩:=bi h
   refine t_app (enc:=eEvent) (xs:=po11.2) rfl rfl (by first|rfl|simp only[List.length_set]|exact(clrL_len (slI_len (by assumption))).symm) rfl (rows_full (enc:=eEvent) (by first|rfl|simp only[List.length_set]|exact(clrL_len (slI_len (by assumption))).symm) rfl) ha26 (ww ?_)
   cases h
   exact eM [some 1,some 2,some 3,some 4] rfl
  refine ww ?_
  cases h
  exact eM [some 1,some 2,some 3,some 4] rfl
 rintro _ rfl
 clear ho
 refine ww ?_
 cases h
 exact eF [some 2,some 3]
def F28(x0:TStore)(x1:Int):Option (Int×(List Object)×(List Object)×(List Change)×Int):=(((if x1<x0.Floor then some true else some (decide (x0.Rev<x1)))).bind fun o1=>(if o1=true then(F60 x0).bind fun t4=>some ((x0.Floor,t4.1,t4.2.1,t4.2.2,5))else(F61 x0 x1).bind fun t5=>(F60 ((⟨x0.Rev,x1,x0.NextUid,t5.1,x0.Objects,t5.2⟩:TStore))).bind fun t6=>some ((x1,t6.1,t6.2.1,t6.2.2,0))))
def a28:AFn:=⟨22,[(.cell 4 (some 6)),(.tmp 5)],
 (.seq (.reg [sq 2 (.box (.t 0)),
sq 4 (.zbox [dI 0,dI 0,dI 0,dN,dN,dN]),
sq 5 (.mv (kI 0))])
 (.seq (.seq (.sem (.reg [sq 6 (.mv (.t 1)),
sq 7 (.fieldA 1 (.t 2)),
sq 8 (.load none (.t 7)),
sq 9 (.bin .lss (.t 6) (.t 8)),
sq 10 (.mv (.t 9)),
zg 11 10 false (.mv (.t 1)),
zg 12 10 false (.fieldA 0 (.t 2)),
zg 13 10 false (.load none (.t 12)),
zg 14 10 false (.bin .gtr (.t 11) (.t 13)),
zl 15 (.pick (.t 10) (kB true) (.t 14)) [] [2,7,2,12]]))
 (.cond (.t 15)
 (.seq (.reg [sq 16 (.load (some 6) (.t 2)),
sq 17 (.call 60 [(.t 16)]),
su (.store 6 (.t 4) (.t 17)),
sq 5 (.mv (kI 5))])
 .ret)
 .skip))
 (.seq (.reg [sq 18 (.load (some 6) (.t 2)),
sq 19 (.mv (.t 1)),
sq 20 (.call 61 [(.t 18),(.t 19)]),
sq 21 (.call 60 [(.t 20)]),
su (.store 6 (.t 4) (.t 21)),
sq 5 (.mv (kI 0))])
 .ret)))⟩
theorem a28_ok:afn Tryz.prog 28=some a28.er:=by kernel_rfl
theorem F28_ok{x0 x1 r}(h:F28 x0 x1=some r):CallD Tryz.prog 28 [.agg [dI x0.Rev,dI x0.Floor,dI x0.NextUid,dM (x0.Base.map eObject),dM (x0.Objects.map eObject),dM (x0.History.map eChange)],.c (dI x1)] [] (tupV [.agg [dI x0.Rev,dI r.1,dI x0.NextUid,.own 0 0 0 (r.2.1.length) none,.own 1 0 0 (r.2.2.1.length) none,.own 2 0 0 (r.2.2.2.1.length) none],.c (dI r.2.2.2.2)]) [some (.arr 0 23 (r.2.1.map eObject)),some (.arr 0 23 (r.2.2.1.map eObject)),some (.arr 0 25 (r.2.2.2.1.map eChange))]:=by
 refine callS a28_ok (by simp[a28]) ?_
 rw[F28]at h
 simp only[a28,VW.down,Nat.reduceEqDiff,reduceCtorEq,Nat.reduceAdd,Nat.reduceLeDiff,Nat.reduceLT,Nat.reduceBEq,Nat.reduceSub,EE.down]
 obtain⟨o1,ho,h⟩:=bi h
 refine cutS (fun s=>s=⟨[(1,.one (.c (dI x1))),(2,.one (.c (.pt 0 0))),(4,.one (.c (.pt 1 0))),(15,.one (.c (dB o1)))],[some (.box [dI x0.Rev,dI x0.Floor,dI x0.NextUid,dM (x0.Base.map eObject),dM (x0.Objects.map eObject),dM (x0.History.map eChange)]),some (.box [dI 0,dI 0,dI 0,dN,dN,dN])]⟩) ?_ ?_
 ·have h:=ho
  clear ho
  refine ww ?_
  refine guardSh h (fun g2 h=>?_) (fun g2 h=>?_)
  ·refine ww ?_
   cases h
   exact eM [some 0,some 1] rfl
  refine ww ?_
  cases h
  exact eM [some 0,some 1] rfl
 rintro _ rfl
 clear ho
 refine ww ?_
 refine condBh h (fun c3 h=>?_) (fun c3 h=>?_)
 ·refine ww ?_
  obtain⟨t4,ht4,h⟩:=bi h
  refine cN [] (F60_ok ht4) trivial (ww ?_)
  cases h
  exact eF [some 2,some 3,some 4]
 refine ww ?_
 obtain⟨t5,ht5,h⟩:=bi h
 refine cN [] (F61_ok ht5) trivial (ww ?_)
 obtain⟨t6,ht6,h⟩:=bi h
 refine callX_gen (as1:=[.agg [dI x0.Rev,dI x1,dI x0.NextUid,dM (t5.1.map eObject),dM (x0.Objects.map eObject),dM (t5.2.map eChange)]]) [(2,.arr 1 23 [])] [some 0,some 1,none] [] (F60_ok ht6) ⟨?_,rfl,?_⟩ ?_ ?_ ?_ ?_ ?_ ?_ ?_ ?_
 ·simp only[ZZ.down,Nat.reduceEqDiff,reduceCtorEq,Nat.reduceAdd,Nat.reduceLeDiff,Nat.reduceLT,Nat.reduceBNe,EE.down]
 ·simp only[ZZ.down,Nat.reduceEqDiff,reduceCtorEq,Nat.reduceAdd,Nat.reduceLeDiff,Nat.reduceLT,Nat.reduceBNe,EE.down]
 ·simp only[ZZ.down,Nat.reduceEqDiff,reduceCtorEq,Nat.reduceAdd,Nat.reduceLeDiff,Nat.reduceLT,Nat.reduceBNe,EE.down]
 ·rfl
 ·rfl
 ·simp[liveAll,A1.live,C.live]
 ·rfl
 ·decide
 ·exact trivial
 refine ww ?_
 cases h
 exact eF [some 3,some 4,some 5]
end Go.Proofs.YtondgcmdhkhkkaaGreat
