/- Each Go function as a function over typed data, and its walk. -/
import Derived.Test.YtdkmamiedcanfaaGreatW0
import Derived.Test.YtdkmamiedcanfaaGreatW1
import Derived.Test.YtdkmamiedcanfaaGreatW2
import Derived.Test.YtdkmamiedcanfaaGreatW3
import Derived.Test.YtdkmamiedcanfaaGreatW5
import Derived.Test.YtdkmamiedcanfaaGreatW7
import Derived.Test.YtdkmamiedcanfaaGreatW8
import Derived.Test.YtdkmamiedcanfaaGreatW9
namespace Go.Proofs.YtdkmamiedcanfaaGreat
open Go Go.Fw Go.Shelf
set_option maxRecDepth 100000
set_option maxHeartbeats 4000000
set_option linter.unusedSimpArgs false
set_option linter.unusedVariables false
def F58(x0:TStore)(x1:Int)(x2:Object):Option (Int×Int×((List Object))×(List Object)×(List Change)):=(F91 x0.Objects ((⟨(IntKind.i64.wrap (x0.Rev+1)),x1,(⟨(⟨x2.Meta.Kind,x2.Meta.Namespace,x2.Meta.Name,x2.Meta.Uid,(IntKind.i64.wrap (x0.Rev+1)),x2.Meta.Generation,x2.Meta.Created,x2.Meta.Deleting,x2.Meta.DeleteAt,x2.Meta.Labels,x2.Meta.Owners,x2.Meta.Finalizers,x2.Meta.Managers⟩:Meta),x2.Spec,x2.Status⟩:Object)⟩:Change))).bind fun t1=>(apI ([]:List Change) x0.History).bind fun a2=>(apI a2 ([(⟨(IntKind.i64.wrap (x0.Rev+1)),x1,(⟨(⟨x2.Meta.Kind,x2.Meta.Namespace,x2.Meta.Name,x2.Meta.Uid,(IntKind.i64.wrap (x0.Rev+1)),x2.Meta.Generation,x2.Meta.Created,x2.Meta.Deleting,x2.Meta.DeleteAt,x2.Meta.Labels,x2.Meta.Owners,x2.Meta.Finalizers,x2.Meta.Managers⟩:Meta),x2.Spec,x2.Status⟩:Object)⟩:Change)])).bind fun a3=>(if 4000<(a3.length:Int)then(F95 ((⟨(IntKind.i64.wrap (x0.Rev+1)),x0.Floor,x0.NextUid,x0.Base,t1,a3⟩:TStore)) ((IntKind.i64.wrap (x0.Floor+1)))).bind fun t5=>some ((((IntKind.i64.wrap (x0.Rev+1))),t5.1,t5.2.1,t1,t5.2.2.1))else some (((IntKind.i64.wrap (x0.Rev+1)),x0.Floor,x0.Base,t1,a3)))
def a58:AFn:=⟨51,[(.cell 6 (some 6)),(.cell 7 (some 23))],
 (.seq (.reg [sq 3 (.box (.t 0)),
sq 5 (.box (.t 2)),
sq 6 (.zbox [dI 0,dI 0,dI 0,dN,dN,dN]),
sq 7 (.zbox [dS ⟨#[]⟩,dS ⟨#[]⟩,dS ⟨#[]⟩,dI 0,dI 0,dI 0,dI 0,dB false,dI 0,dN,dN,dN,dN,dI 0,dI 0,dS ⟨#[]⟩,dN,dN,dI 0,dI 0,dS ⟨#[]⟩,dN,dN])])
 (.seq (.reg [sq 9 (.fieldA 0 (.t 3)),
sq 10 (.load none (.t 9)),
sq 11 (.bin .add (.t 10) (kI 1)),
sq 12 (.fieldA 0 (.t 5)),
sq 13 (.fieldA 4 (.t 12)),
⟨none,none,.store 1 (.t 13) (.t 11),[],(.lone [3,9,5,12])⟩])
 (.seq (.reg [sq 14 (.fieldA 0 (.t 3)),
sq 15 (.load none (.t 14)),
sq 16 (.bin .add (.t 15) (kI 1)),
sq 17 (.mv (.t 1)),
sq 18 (.load (some 23) (.t 5)),
sq 19 (.build [dI 0,dI 0,dS ⟨#[]⟩,dS ⟨#[]⟩,dS ⟨#[]⟩,dI 0,dI 0,dI 0,dI 0,dB false,dI 0,dN,dN,dN,dN,dI 0,dI 0,dS ⟨#[]⟩,dN,dN,dI 0,dI 0,dS ⟨#[]⟩,dN,dN] [(0,1,(.t 16)),(1,1,(.t 17)),(2,23,(.t 18))]),
sq 8 (.zbox [dI 0,dI 0,dS ⟨#[]⟩,dS ⟨#[]⟩,dS ⟨#[]⟩,dI 0,dI 0,dI 0,dI 0,dB false,dI 0,dN,dN,dN,dN,dI 0,dI 0,dS ⟨#[]⟩,dN,dN,dI 0,dI 0,dS ⟨#[]⟩,dN,dN]),
su (.store 25 (.t 8) (.t 19))])
 (.seq (.reg [sq 20 (.fieldA 0 (.t 3)),
sq 21 (.load none (.t 20)),
sq 22 (.bin .add (.t 21) (kI 1)),
sq 23 (.fieldA 0 (.t 3)),
⟨none,none,.store 1 (.t 23) (.t 22),[],(.lone [3,20,3])⟩])
 (.seq (.reg [sq 24 (.fieldA 4 (.t 3)),
sq 25 (.load none (.t 24)),
sq 26 (.load (some 25) (.t 8)),
sq 27 (.call 91 [(.t 25),(.t 26)]),
sq 28 (.fieldA 4 (.t 3)),
su (.store 1 (.t 28) (.t 27))])
 (.seq (.regd [sq 29 (.bslice 25 []),
sq 30 (.fieldA 5 (.t 3)),
sd 31 (.load none (.t 30)) [1],
zn 32 (.app 25 368 (.t 29) (.t 31)) [0,1,2] [0,1,2],
sq 33 (.load (some 25) (.t 8)),
zn 34 (.bslice 25 [(.t 33)]) [4] [4],
zl 35 (.app 25 368 (.t 32) (.t 34)) [0,1,2,3,4,5] [],
sd 36 (.fieldA 5 (.t 3)) [0,1,2,3,4,5,6],
⟨none,none,.store 1 (.t 36) (.t 35),[0,1,2,3,4,5,6,7],(.lone [])⟩])
 (.seq (.seq (.reg [sq 37 (.fieldA 5 (.t 3)),
sq 38 (.load none (.t 37)),
sq 39 (.len (.t 38)),
sq 40 (.bin .gtr (.t 39) (kI 4000))])
 (.cond (.t 40)
 (.reg [sq 42 (.load (some 6) (.t 3)),
sq 43 (.fieldA 1 (.t 3)),
sq 44 (.load none (.t 43)),
sq 45 (.bin .add (.t 44) (kI 1)),
sq 46 (.call 95 [(.t 42),(.t 45)]),
sq 41 (.mv (.t 46)),
sq 47 (.ext (.t 41) 0),
sq 48 (.ext (.t 41) 1),
su (.store 6 (.t 3) (.t 47))])
 .skip))
 (.seq (.regd [sq 49 (.load (some 6) (.t 3)),
sq 50 (.load (some 23) (.t 5)),
⟨none,none,.store 6 (.t 6) (.t 49),[0],(.lone [5])⟩,
⟨none,none,.store 23 (.t 7) (.t 50),[0,1,2],(.lone [])⟩])
 .ret))))))))⟩
theorem F58_ok{x0 x1 x2 r}(h:F58 x0 x1 x2=some r):CallD Tryz.prog 58 [.agg [dI x0.Rev,dI x0.Floor,dI x0.NextUid,dM (x0.Base.map eObject),dM (x0.Objects.map eObject),dM (x0.History.map eChange)],.c (dI x1),.agg [dS x2.Meta.Kind,dS x2.Meta.Namespace,dS x2.Meta.Name,dI x2.Meta.Uid,dI x2.Meta.Version,dI x2.Meta.Generation,dI x2.Meta.Created,dB x2.Meta.Deleting,dI x2.Meta.DeleteAt,dM (x2.Meta.Labels.map eLabel),dM (x2.Meta.Owners.map eOwner),dM (x2.Meta.Finalizers.map eS),dM (x2.Meta.Managers.map eManager),dI x2.Spec.Kind,dI x2.Spec.N,dS x2.Spec.S,dM (x2.Spec.List_.map eTValue),dM (x2.Spec.Fields.map eTField),dI x2.Status.Kind,dI x2.Status.N,dS x2.Status.S,dM (x2.Status.List_.map eTValue),dM (x2.Status.Fields.map eTField)]] [] (tupV [.agg [dI r.1,dI r.2.1,dI x0.NextUid,dM (r.2.2.1.map eObject),dM (r.2.2.2.1.map eObject),dM (r.2.2.2.2.map eChange)],.agg [dS x2.Meta.Kind,dS x2.Meta.Namespace,dS x2.Meta.Name,dI x2.Meta.Uid,dI ((IntKind.i64.wrap (x0.Rev+1))),dI x2.Meta.Generation,dI x2.Meta.Created,dB x2.Meta.Deleting,dI x2.Meta.DeleteAt,dM (x2.Meta.Labels.map eLabel),dM (x2.Meta.Owners.map eOwner),dM (x2.Meta.Finalizers.map eS),dM (x2.Meta.Managers.map eManager),dI x2.Spec.Kind,dI x2.Spec.N,dS x2.Spec.S,dM (x2.Spec.List_.map eTValue),dM (x2.Spec.Fields.map eTField),dI x2.Status.Kind,dI x2.Status.N,dS x2.Status.S,dM (x2.Status.List_.map eTValue),dM (x2.Status.Fields.map eTField)]]) []:=by
 rw[F58]at h
 refine zc a58 (by kernel_rfl) rfl (ww ?_)
 obtain⟨t1,ht1,h⟩:=bi h
 refine cN [] (F91_ok ht1) trivial (ww ?_)
 refine t_bslice (enc:=eChange) (ys:=([]:List Change)) rfl rfl (by simp[A1.cells]) (by first|rfl|(simp only[List.drop_zero,take_mapL];rfl)|(simp only[lit,List.map_cons,List.map_nil,List.drop_zero,take_mapL,EE.down];done)|(simp only[lit,List.map_cons,List.map_nil,List.drop_zero,take_mapL,EE.down];rfl)) (ww ?_)
 refine kD_new (by simp[wrs,allW,hset]) (ww ?_)
 obtain⟨a2,ha2,h⟩:=bi h
 refine t_app (enc:=eChange) (xs:=([]:List Change)) rfl rfl (by first|rfl|simp only[List.length_set]|exact(clrL_len (slI_len (by assumption))).symm) rfl (rows_frz (enc:=eChange) (fun _=>rfl)) ha2 (ww ?_)
 refine kD_own (by simp[wrs,allW,hset,ownW]) (ww ?_)
 refine t_bslice (enc:=eChange) (ys:=[(⟨(IntKind.i64.wrap (x0.Rev+1)),x1,(⟨(⟨x2.Meta.Kind,x2.Meta.Namespace,x2.Meta.Name,x2.Meta.Uid,(IntKind.i64.wrap (x0.Rev+1)),x2.Meta.Generation,x2.Meta.Created,x2.Meta.Deleting,x2.Meta.DeleteAt,x2.Meta.Labels,x2.Meta.Owners,x2.Meta.Finalizers,x2.Meta.Managers⟩:Meta),x2.Spec,x2.Status⟩:Object)⟩:Change)]) rfl rfl (by simp[A1.cells]) (by first|rfl|(simp only[List.drop_zero,take_mapL];rfl)|(simp only[lit,List.map_cons,List.map_nil,List.drop_zero,take_mapL,EE.down];done)|(simp only[lit,List.map_cons,List.map_nil,List.drop_zero,take_mapL,EE.down];rfl)) (ww ?_)
 refine kD_new (by simp[wrs,allW,hset]) (ww ?_)
 obtain⟨a3,ha3,h⟩:=bi h
 refine t_app (enc:=eChange) (xs:=a2) rfl rfl (by first|rfl|simp only[List.length_set]|exact(clrL_len (slI_len (by assumption))).symm) rfl (rows_full (enc:=eChange) (by first|rfl|simp only[List.length_set]|exact(clrL_len (slI_len (by assumption))).symm) rfl) ha3 (ww ?_)
 refine condSh h (fun c4 h=>?_) (fun c4 h=>?_)
 ·refine ww ?_
  obtain⟨t5,ht5,h⟩:=bi h
  refine callX_gen (as1:=[.agg [dI ((IntKind.i64.wrap (x0.Rev+1))),dI x0.Floor,dI x0.NextUid,dM (x0.Base.map eObject),dM (t1.map eObject),dM (a3.map eChange)],.c (dI ((IntKind.i64.wrap (x0.Floor+1))))]) [(5,.arr 1 23 []),(6,.arr 3 25 []),(0,.box [dI ((IntKind.i64.wrap (x0.Rev+1))),dI x0.Floor,dI x0.NextUid,dM (x0.Base.map eObject),.own 5 0 0 0 (some 0),.own 6 2 0 0 (some 0)])] [some 0,some 1,some 2,some 3,some 4,none,none,some 7] [] (F95_ok ht5) ⟨?_,rfl,?_⟩ ?_ ?_ ?_ ?_ ?_ ?_ ?_ ?_
  ·simp only[ZZ.down,Nat.reduceEqDiff,reduceCtorEq,Nat.reduceAdd,Nat.reduceLeDiff,Nat.reduceLT,Nat.reduceBNe,EE.down]
  ·simp only[ZZ.down,Nat.reduceEqDiff,reduceCtorEq,Nat.reduceAdd,Nat.reduceLeDiff,Nat.reduceLT,Nat.reduceBNe,EE.down]
  ·simp only[ZZ.down,Nat.reduceEqDiff,reduceCtorEq,Nat.reduceAdd,Nat.reduceLeDiff,Nat.reduceLT,Nat.reduceBNe,EE.down]
  ·rfl
  ·rfl
  ·simp[liveAll,A1.live,C.live]
  ·rfl
  ·decide
  ·exact trivial
  refine ww ?_
  cases h
  exact eF []
 refine ww ?_
 cases h
 exact eF []
def F55(x0:TStore)(x1:Object)(x2:Int):Option (TStore×Object×Int):=(((F94 x1).bind fun t2=>(if(nb t2)=true then some true else(if x2<0 then some true else some (decide (1000000000000<x2))))).bind fun o1=>(if o1=true then some ((x0,(⟨(⟨(⟨#[]⟩:ByteArray),(⟨#[]⟩:ByteArray),(⟨#[]⟩:ByteArray),0,0,0,0,false,0,[],[],[],[]⟩:Meta),(⟨0,0,(⟨#[]⟩:ByteArray),[],[]⟩:TValue),(⟨0,0,(⟨#[]⟩:ByteArray),[],[]⟩:TValue)⟩:Object),1))else(F92 x1).bind fun t6=>(F52 x0.Objects t6).bind fun t7=>(if 0≤t7 then some ((x0,(⟨(⟨(⟨#[]⟩:ByteArray),(⟨#[]⟩:ByteArray),(⟨#[]⟩:ByteArray),0,0,0,0,false,0,[],[],[],[]⟩:Meta),(⟨0,0,(⟨#[]⟩:ByteArray),[],[]⟩:TValue),(⟨0,0,(⟨#[]⟩:ByteArray),[],[]⟩:TValue)⟩:Object),8))else(((if 500≤(x0.Objects.length:Int)then some true else(if 1000000000000000≤x0.Rev then some true else some (decide (1000000000000000≤x0.NextUid))))).bind fun o9=>(if o9=true then some ((x0,(⟨(⟨(⟨#[]⟩:ByteArray),(⟨#[]⟩:ByteArray),(⟨#[]⟩:ByteArray),0,0,0,0,false,0,[],[],[],[]⟩:Meta),(⟨0,0,(⟨#[]⟩:ByteArray),[],[]⟩:TValue),(⟨0,0,(⟨#[]⟩:ByteArray),[],[]⟩:TValue)⟩:Object),15))else(F58 ((⟨x0.Rev,x0.Floor,(IntKind.i64.wrap (x0.NextUid+1)),x0.Base,x0.Objects,x0.History⟩:TStore)) 1 ((⟨(⟨x1.Meta.Kind,x1.Meta.Namespace,x1.Meta.Name,x0.NextUid,x1.Meta.Version,1,x2,false,0,x1.Meta.Labels,x1.Meta.Owners,x1.Meta.Finalizers,x1.Meta.Managers⟩:Meta),x1.Spec,x1.Status⟩:Object))).bind fun t13=>some (((⟨t13.1,t13.2.1,((IntKind.i64.wrap (x0.NextUid+1))),t13.2.2.1,t13.2.2.2.1,t13.2.2.2.2⟩:TStore),(⟨(⟨x1.Meta.Kind,x1.Meta.Namespace,x1.Meta.Name,x0.NextUid,(IntKind.i64.wrap (x0.Rev+1)),(1:Int),x2,false,(0:Int),x1.Meta.Labels,x1.Meta.Owners,x1.Meta.Finalizers,x1.Meta.Managers⟩:Meta),x1.Spec,x1.Status⟩:Object),0)))))))
def a55:AFn:=⟨71,[(.cell 6 (some 6)),(.cell 7 (some 23)),(.tmp 8)],
 (.seq (.reg [sq 3 (.box (.t 0)),
sq 4 (.box (.t 1)),
sq 6 (.zbox [dI 0,dI 0,dI 0,dN,dN,dN]),
sq 7 (.zbox [dS ⟨#[]⟩,dS ⟨#[]⟩,dS ⟨#[]⟩,dI 0,dI 0,dI 0,dI 0,dB false,dI 0,dN,dN,dN,dN,dI 0,dI 0,dS ⟨#[]⟩,dN,dN,dI 0,dI 0,dS ⟨#[]⟩,dN,dN]),
sq 8 (.mv (kI 0))])
 (.seq (.seq (.sem (.reg [sq 9 (.load (some 23) (.t 4)),
sq 10 (.call 94 [(.t 9)]),
sq 11 (.not (.t 10)),
sq 12 (.mv (.t 11)),
zg 13 12 false (.mv (.t 2)),
zg 14 12 false (.bin .lss (.t 13) (kI 0)),
sq 15 (.pick (.t 12) (kB true) (.t 14)),
sq 16 (.mv (.t 15)),
zg 17 16 false (.mv (.t 2)),
zg 18 16 false (.bin .gtr (.t 17) (kI 1000000000000)),
sq 19 (.pick (.t 16) (kB true) (.t 18))]))
 (.cond (.t 19)
 (.seq (.reg [sq 20 (.load (some 6) (.t 3)),
sq 21 (.build [dS ⟨#[]⟩,dS ⟨#[]⟩,dS ⟨#[]⟩,dI 0,dI 0,dI 0,dI 0,dB false,dI 0,dN,dN,dN,dN,dI 0,dI 0,dS ⟨#[]⟩,dN,dN,dI 0,dI 0,dS ⟨#[]⟩,dN,dN] []),
su (.store 6 (.t 6) (.t 20)),
su (.store 23 (.t 7) (.t 21)),
sq 8 (.mv (kI 1))])
 .ret)
 .skip))
 (.seq (.seq (.regd [sq 22 (.fieldA 4 (.t 3)),
sd 23 (.load none (.t 22)) [0],
sq 24 (.load (some 23) (.t 4)),
zl 25 (.call 92 [(.t 24)]) [2] [3,22],
zl 26 (.call 52 [(.t 23),(.t 25)]) [0,1,2,3] [],
sd 27 (.bin .geq (.t 26) (kI 0)) [0,1,2,3,4]])
 (.cond (.t 27)
 (.seq (.reg [sq 28 (.load (some 6) (.t 3)),
sq 29 (.build [dS ⟨#[]⟩,dS ⟨#[]⟩,dS ⟨#[]⟩,dI 0,dI 0,dI 0,dI 0,dB false,dI 0,dN,dN,dN,dN,dI 0,dI 0,dS ⟨#[]⟩,dN,dN,dI 0,dI 0,dS ⟨#[]⟩,dN,dN] []),
su (.store 6 (.t 6) (.t 28)),
su (.store 23 (.t 7) (.t 29)),
sq 8 (.mv (kI 8))])
 .ret)
 .skip))
 (.seq (.seq (.sem (.reg [sq 30 (.fieldA 4 (.t 3)),
sq 31 (.load none (.t 30)),
sq 32 (.len (.t 31)),
sq 33 (.bin .geq (.t 32) (kI 500)),
sq 34 (.mv (.t 33)),
zg 35 34 false (.fieldA 0 (.t 3)),
zg 36 34 false (.load none (.t 35)),
zg 37 34 false (.bin .geq (.t 36) (kI 1000000000000000)),
sq 38 (.pick (.t 34) (kB true) (.t 37)),
sq 39 (.mv (.t 38)),
zg 40 39 false (.fieldA 2 (.t 3)),
zg 41 39 false (.load none (.t 40)),
zg 42 39 false (.bin .geq (.t 41) (kI 1000000000000000)),
sq 43 (.pick (.t 39) (kB true) (.t 42))]))
 (.cond (.t 43)
 (.seq (.reg [sq 44 (.load (some 6) (.t 3)),
sq 45 (.build [dS ⟨#[]⟩,dS ⟨#[]⟩,dS ⟨#[]⟩,dI 0,dI 0,dI 0,dI 0,dB false,dI 0,dN,dN,dN,dN,dI 0,dI 0,dS ⟨#[]⟩,dN,dN,dI 0,dI 0,dS ⟨#[]⟩,dN,dN] []),
su (.store 6 (.t 6) (.t 44)),
su (.store 23 (.t 7) (.t 45)),
sq 8 (.mv (kI 15))])
 .ret)
 .skip))
 (.seq (.reg [sq 46 (.fieldA 2 (.t 3)),
sq 47 (.load none (.t 46)),
sq 48 (.fieldA 0 (.t 4)),
sq 49 (.fieldA 3 (.t 48)),
⟨none,none,.store 1 (.t 49) (.t 47),[],(.lone [3,46,4,48])⟩])
 (.seq (.reg [sq 50 (.fieldA 0 (.t 4)),
sq 51 (.fieldA 5 (.t 50)),
⟨none,none,.store 1 (.t 51) (kI 1),[],(.lone [4,50])⟩])
 (.seq (.reg [sq 52 (.mv (.t 2)),
sq 53 (.fieldA 0 (.t 4)),
sq 54 (.fieldA 6 (.t 53)),
⟨none,none,.store 1 (.t 54) (.t 52),[],(.lone [4,53])⟩])
 (.seq (.reg [sq 55 (.fieldA 0 (.t 4)),
sq 56 (.fieldA 7 (.t 55)),
⟨none,none,.store 1 (.t 56) (kB false),[],(.lone [4,55])⟩])
 (.seq (.reg [sq 57 (.fieldA 0 (.t 4)),
sq 58 (.fieldA 8 (.t 57)),
⟨none,none,.store 1 (.t 58) (kI 0),[],(.lone [4,57])⟩])
 (.seq (.reg [sq 59 (.fieldA 2 (.t 3)),
sq 60 (.load none (.t 59)),
sq 61 (.bin .add (.t 60) (kI 1)),
sq 62 (.fieldA 2 (.t 3)),
⟨none,none,.store 1 (.t 62) (.t 61),[],(.lone [3,59,3])⟩])
 (.seq (.reg [sq 64 (.load (some 6) (.t 3)),
sq 65 (.load (some 23) (.t 4)),
sq 66 (.call 58 [(.t 64),(kI 1),(.t 65)]),
sq 63 (.mv (.t 66)),
sq 67 (.ext (.t 63) 0),
sq 68 (.ext (.t 63) 1),
su (.store 6 (.t 3) (.t 67)),
su (.store 23 (.t 4) (.t 68))])
 (.seq (.regd [sq 69 (.load (some 6) (.t 3)),
sq 70 (.load (some 23) (.t 4)),
⟨none,none,.store 6 (.t 6) (.t 69),[0],(.lone [4])⟩,
⟨none,none,.store 23 (.t 7) (.t 70),[0,1,2],(.lone [])⟩,
sd 8 (.mv (kI 0)) [0,1,2,3]])
 .ret))))))))))))⟩
theorem F55_ok{x0 x1 x2 r}(h:F55 x0 x1 x2=some r):CallD Tryz.prog 55 [.agg [dI x0.Rev,dI x0.Floor,dI x0.NextUid,dM (x0.Base.map eObject),dM (x0.Objects.map eObject),dM (x0.History.map eChange)],.agg [dS x1.Meta.Kind,dS x1.Meta.Namespace,dS x1.Meta.Name,dI x1.Meta.Uid,dI x1.Meta.Version,dI x1.Meta.Generation,dI x1.Meta.Created,dB x1.Meta.Deleting,dI x1.Meta.DeleteAt,dM (x1.Meta.Labels.map eLabel),dM (x1.Meta.Owners.map eOwner),dM (x1.Meta.Finalizers.map eS),dM (x1.Meta.Managers.map eManager),dI x1.Spec.Kind,dI x1.Spec.N,dS x1.Spec.S,dM (x1.Spec.List_.map eTValue),dM (x1.Spec.Fields.map eTField),dI x1.Status.Kind,dI x1.Status.N,dS x1.Status.S,dM (x1.Status.List_.map eTValue),dM (x1.Status.Fields.map eTField)],.c (dI x2)] [] (tupV [.agg [dI ((r.1).Rev),dI ((r.1).Floor),dI ((r.1).NextUid),dM (((r.1).Base).map eObject),dM (((r.1).Objects).map eObject),dM (((r.1).History).map eChange)],.agg [dS ((r.2.1).Meta.Kind),dS ((r.2.1).Meta.Namespace),dS ((r.2.1).Meta.Name),dI ((r.2.1).Meta.Uid),dI ((r.2.1).Meta.Version),dI ((r.2.1).Meta.Generation),dI ((r.2.1).Meta.Created),dB ((r.2.1).Meta.Deleting),dI ((r.2.1).Meta.DeleteAt),dM (((r.2.1).Meta.Labels).map eLabel),dM (((r.2.1).Meta.Owners).map eOwner),dM (((r.2.1).Meta.Finalizers).map eS),dM (((r.2.1).Meta.Managers).map eManager),dI ((r.2.1).Spec.Kind),dI ((r.2.1).Spec.N),dS ((r.2.1).Spec.S),dM (((r.2.1).Spec.List_).map eTValue),dM (((r.2.1).Spec.Fields).map eTField),dI ((r.2.1).Status.Kind),dI ((r.2.1).Status.N),dS ((r.2.1).Status.S),dM (((r.2.1).Status.List_).map eTValue),dM (((r.2.1).Status.Fields).map eTField)],.c (dI r.2.2)]) []:=by
 rw[F55]at h
 refine zc a55 (by kernel_rfl) rfl (ww ?_)
 obtain⟨o1,ho,h⟩:=bi h
 refine cutS (fun s=>s=⟨[(2,.one (.c (dI x2))),(3,.one (.c (.pt 0 0))),(4,.one (.c (.pt 1 0))),(6,.one (.c (.pt 2 0))),(7,.one (.c (.pt 3 0))),(19,.one (.c (dB o1)))],[some (.box [dI x0.Rev,dI x0.Floor,dI x0.NextUid,dM (x0.Base.map eObject),dM (x0.Objects.map eObject),dM (x0.History.map eChange)]),some (.box [dS x1.Meta.Kind,dS x1.Meta.Namespace,dS x1.Meta.Name,dI x1.Meta.Uid,dI x1.Meta.Version,dI x1.Meta.Generation,dI x1.Meta.Created,dB x1.Meta.Deleting,dI x1.Meta.DeleteAt,dM (x1.Meta.Labels.map eLabel),dM (x1.Meta.Owners.map eOwner),dM (x1.Meta.Finalizers.map eS),dM (x1.Meta.Managers.map eManager),dI x1.Spec.Kind,dI x1.Spec.N,dS x1.Spec.S,dM (x1.Spec.List_.map eTValue),dM (x1.Spec.Fields.map eTField),dI x1.Status.Kind,dI x1.Status.N,dS x1.Status.S,dM (x1.Status.List_.map eTValue),dM (x1.Status.Fields.map eTField)]),some (.box [dI 0,dI 0,dI 0,dN,dN,dN]),some (.box [dS ((⟨#[]⟩:ByteArray)),dS ((⟨#[]⟩:ByteArray)),dS ((⟨#[]⟩:ByteArray)),dI 0,dI 0,dI 0,dI 0,dB false,dI 0,dN,dN,dN,dN,dI 0,dI 0,dS ((⟨#[]⟩:ByteArray)),dN,dN,dI 0,dI 0,dS ((⟨#[]⟩:ByteArray)),dN,dN])]⟩) ?_ ?_
 ·have h:=ho
  clear ho
  refine ww ?_
  obtain⟨t2,ht2,h⟩:=bi h
  refine cN [] (F94_ok ht2) trivial (ww ?_)
  refine guardSBh h (fun g3 h=>?_) (fun g3 h=>?_)
  ·refine ww ?_
   cases h
   exact eM [some 0,some 1,some 2,some 3] rfl
  refine ww ?_
  refine guardSh h (fun g4 h=>?_) (fun g4 h=>?_)
  ·refine ww ?_
   cases h
   exact eM [some 0,some 1,some 2,some 3] rfl
  refine ww ?_
  cases h
  exact eM [some 0,some 1,some 2,some 3] rfl
 rintro _ rfl
 clear ho
 refine ww ?_
 refine condBh h (fun c5 h=>?_) (fun c5 h=>?_)
 ·refine ww ?_
  cases h
  exact eF []
 refine ww ?_
 obtain⟨t6,ht6,h⟩:=bi h
 refine cN [] (F92_ok ht6) trivial (ww ?_)
 obtain⟨t7,ht7,h⟩:=bi h
 refine cN [] (F52_ok ht7) trivial (ww ?_)
 refine condSh h (fun c8 h=>?_) (fun c8 h=>?_)
 ·refine ww ?_
  cases h
  exact eF []
 refine ww ?_
 obtain⟨o9,ho,h⟩:=bi h
 refine cutS (fun s=>s=⟨[(2,.one (.c (dI x2))),(3,.one (.c (.pt 0 0))),(4,.one (.c (.pt 1 0))),(6,.one (.c (.pt 2 0))),(7,.one (.c (.pt 3 0))),(43,.one (.c (dB o9)))],[some (.box [dI x0.Rev,dI x0.Floor,dI x0.NextUid,dM (x0.Base.map eObject),dM (x0.Objects.map eObject),dM (x0.History.map eChange)]),some (.box [dS x1.Meta.Kind,dS x1.Meta.Namespace,dS x1.Meta.Name,dI x1.Meta.Uid,dI x1.Meta.Version,dI x1.Meta.Generation,dI x1.Meta.Created,dB x1.Meta.Deleting,dI x1.Meta.DeleteAt,dM (x1.Meta.Labels.map eLabel),dM (x1.Meta.Owners.map eOwner),dM (x1.Meta.Finalizers.map eS),dM (x1.Meta.Managers.map eManager),dI x1.Spec.Kind,dI x1.Spec.N,dS x1.Spec.S,dM (x1.Spec.List_.map eTValue),dM (x1.Spec.Fields.map eTField),dI x1.Status.Kind,dI x1.Status.N,dS x1.Status.S,dM (x1.Status.List_.map eTValue),dM (x1.Status.Fields.map eTField)]),some (.box [dI 0,dI 0,dI 0,dN,dN,dN]),some (.box [dS ((⟨#[]⟩:ByteArray)),dS ((⟨#[]⟩:ByteArray)),dS ((⟨#[]⟩:ByteArray)),dI 0,dI 0,dI 0,dI 0,dB false,dI 0,dN,dN,dN,dN,dI 0,dI 0,dS ((⟨#[]⟩:ByteArray)),dN,dN,dI 0,dI 0,dS ((⟨#[]⟩:ByteArray)),dN,dN])]⟩) ?_ ?_
 ·have h:=ho
  clear ho
  refine ww ?_
  refine guardSh h (fun g10 h=>?_) (fun g10 h=>?_)
  ·refine ww ?_
   cases h
   exact eM [some 0,some 1,some 2,some 3] rfl
  refine ww ?_
  refine guardSh h (fun g11 h=>?_) (fun g11 h=>?_)
  ·refine ww ?_
   cases h
   exact eM [some 0,some 1,some 2,some 3] rfl
  refine ww ?_
  cases h
  exact eM [some 0,some 1,some 2,some 3] rfl
 rintro _ rfl
 clear ho
 refine ww ?_
 refine condBh h (fun c12 h=>?_) (fun c12 h=>?_)
 ·refine ww ?_
  cases h
  exact eF []
 refine ww ?_
 obtain⟨t13,ht13,h⟩:=bi h
 refine cN [] (F58_ok ht13) trivial (ww ?_)
 cases h
 exact eF []
def F31:Option (TStore):=(F56).bind fun t1=>(F57 ((⟨#[97]⟩:ByteArray))).bind fun t2=>(F55 ((⟨0,0,1,[],[],[]⟩:TStore)) ((⟨(⟨(⟨#[80,111,100]⟩:ByteArray),(⟨#[110]⟩:ByteArray),((⟨#[97]⟩:ByteArray)),0,0,0,0,false,0,[],[],[],[]⟩:Meta),(⟨0,0,(⟨#[]⟩:ByteArray),[],[]⟩:TValue),(⟨0,0,(⟨#[]⟩:ByteArray),[],[]⟩:TValue)⟩:Object)) 1).bind fun t3=>(F55 ((⟨(t3.1).Rev,(t3.1).Floor,(t3.1).NextUid,(t3.1).Base,(t3.1).Objects,(t3.1).History⟩:TStore)) ((⟨(⟨(⟨#[78,111,100,101]⟩:ByteArray),(⟨#[]⟩:ByteArray),(⟨#[109]⟩:ByteArray),0,0,0,0,false,0,[],[],[],[]⟩:Meta),(⟨0,0,(⟨#[]⟩:ByteArray),[],[]⟩:TValue),(⟨0,0,(⟨#[]⟩:ByteArray),[],[]⟩:TValue)⟩:Object)) 1).bind fun t4=>some ((⟨(t4.1).Rev,(t4.1).Floor,(t4.1).NextUid,(t4.1).Base,(t4.1).Objects,(t4.1).History⟩:TStore))
def a31:AFn:=⟨20,[(.cell 0 (some 6))],
 (.seq (.reg [zl 0 (.zbox [dI 0,dI 0,dI 0,dN,dN,dN]) [] []])
 (.seq (.reg [sq 5 (.call 56 []),
sq 6 (.call 57 [(kS ⟨#[97]⟩)]),
sq 7 (.call 55 [(.t 5),(.t 6),(kI 1)]),
sq 4 (.mv (.t 7)),
sq 8 (.ext (.t 4) 0),
sq 9 (.ext (.t 4) 1),
sq 10 (.ext (.t 4) 2),
sq 1 (.zbox [dI 0,dI 0,dI 0,dN,dN,dN]),
sq 2 (.zbox [dS ⟨#[]⟩,dS ⟨#[]⟩,dS ⟨#[]⟩,dI 0,dI 0,dI 0,dI 0,dB false,dI 0,dN,dN,dN,dN,dI 0,dI 0,dS ⟨#[]⟩,dN,dN,dI 0,dI 0,dS ⟨#[]⟩,dN,dN]),
su (.store 6 (.t 1) (.t 8)),
su (.store 23 (.t 2) (.t 9)),
sq 3 (.mv (.t 10))])
 (.seq (.reg [sq 12 (.load (some 6) (.t 1)),
sq 13 (.build [dS ⟨#[]⟩,dS ⟨#[]⟩,dS ⟨#[]⟩,dI 0,dI 0,dI 0,dI 0,dB false,dI 0,dN,dN,dN,dN] [(0,1,(kS ⟨#[78,111,100,101]⟩)),(2,1,(kS ⟨#[109]⟩))]),
sq 14 (.build [dS ⟨#[]⟩,dS ⟨#[]⟩,dS ⟨#[]⟩,dI 0,dI 0,dI 0,dI 0,dB false,dI 0,dN,dN,dN,dN,dI 0,dI 0,dS ⟨#[]⟩,dN,dN,dI 0,dI 0,dS ⟨#[]⟩,dN,dN] [(0,13,(.t 13))]),
sq 15 (.call 55 [(.t 12),(.t 14),(kI 1)]),
sq 11 (.mv (.t 15)),
sq 16 (.ext (.t 11) 0),
sq 17 (.ext (.t 11) 1),
sq 18 (.ext (.t 11) 2),
su (.store 6 (.t 1) (.t 16))])
 (.seq (.reg [sq 19 (.load (some 6) (.t 1)),
⟨none,none,.store 6 (.t 0) (.t 19),[],(.lone [1])⟩])
 .ret))))⟩
theorem F31_ok{r}(h:F31=some r):CallD Tryz.prog 31 [] [] (tupV [.agg [dI ((r).Rev),dI ((r).Floor),dI ((r).NextUid),dM (((r).Base).map eObject),dM (((r).Objects).map eObject),dM (((r).History).map eChange)]]) []:=by
 rw[F31]at h
 refine zc a31 (by kernel_rfl) rfl (ww ?_)
 obtain⟨t1,ht1,h⟩:=bi h
 refine cN [] (F56_ok ht1) trivial (ww ?_)
 obtain⟨t2,ht2,h⟩:=bi h
 refine cN [] (F57_ok ht2) trivial (ww ?_)
 obtain⟨t3,ht3,h⟩:=bi h
 refine cN [] (F55_ok ht3) trivial (ww ?_)
 obtain⟨t4,ht4,h⟩:=bi h
 refine cN [] (F55_ok ht4) trivial (ww ?_)
 cases h
 exact eF []
def F82(x0:TStore)(x1:Filter)(x2:Int):Option (Int):=(F45 x1.Selector).bind fun t1=>(if(nb t1)=true then some 1 else(((if x2<0 then some true else some (decide (x0.Rev<x2)))).bind fun o3=>(if o3=true then some 5 else(if x2<x0.Floor then some 10 else some 0))))
def a82:AFn:=⟨26,[(.tmp 6)],
 (.seq (.reg [sq 3 (.box (.t 0)),
sq 4 (.box (.t 1)),
sq 6 (.mv (kI 0))])
 (.seq (.block 0 (.seq (.reg [sq 8 (.fieldA 2 (.t 4)),
sq 9 (.load none (.t 8)),
sq 10 (.call 45 [(.t 9)]),
sq 11 (.not (.t 10)),
sq 7 (.mv (.t 11))])
 (.cond (.t 7)
 (.seq (.reg [sq 6 (.mv (kI 1))])
 .ret)
 (.seq (.sem (.reg [sq 13 (.mv (.t 2)),
sq 14 (.bin .lss (.t 13) (kI 0)),
sq 15 (.mv (.t 14)),
zg 16 15 false (.mv (.t 2)),
zg 17 15 false (.fieldA 0 (.t 3)),
zg 18 15 false (.load none (.t 17)),
zg 19 15 false (.bin .gtr (.t 16) (.t 18)),
sq 20 (.pick (.t 15) (kB true) (.t 19)),
sq 12 (.mv (.t 20))]))
 (.cond (.t 12)
 (.seq (.reg [sq 6 (.mv (kI 5))])
 .ret)
 (.seq (.reg [sq 22 (.mv (.t 2)),
sq 23 (.fieldA 1 (.t 3)),
sq 24 (.load none (.t 23)),
sq 25 (.bin .lss (.t 22) (.t 24)),
sq 21 (.mv (.t 25))])
 (.cond (.t 21)
 (.seq (.reg [sq 6 (.mv (kI 10))])
 .ret)
 .skip)))))))
 (.seq (.reg [sq 6 (.mv (kI 0))])
 .ret)))⟩
theorem F82_ok{x0 x1 x2 r}(h:F82 x0 x1 x2=some r):CallD Tryz.prog 82 [.agg [dI x0.Rev,dI x0.Floor,dI x0.NextUid,dM (x0.Base.map eObject),dM (x0.Objects.map eObject),dM (x0.History.map eChange)],.agg [dS x1.Kind,dS x1.Namespace,dM (x1.Selector.map eRequirement)],.c (dI x2)] [] (tupV [.c (dI r)]) []:=by
 rw[F82]at h
 refine zc a82 (by kernel_rfl) rfl (ww ?_)
 obtain⟨t1,ht1,h⟩:=bi h
 refine cN [] (F45_ok ht1) trivial (ww ?_)
 refine condBh h (fun c2 h=>?_) (fun c2 h=>?_)
 ·refine ww ?_
  cases h
  exact eF []
 refine ww ?_
 obtain⟨o3,ho,h⟩:=bi h
 refine cutS (fun s=>s=⟨[(2,.one (.c (dI x2))),(3,.one (.c (.pt 0 0))),(12,.one (.c (dB o3)))],[some (.box [dI x0.Rev,dI x0.Floor,dI x0.NextUid,dM (x0.Base.map eObject),dM (x0.Objects.map eObject),dM (x0.History.map eChange)])]⟩) ?_ ?_
 ·have h:=ho
  clear ho
  refine ww ?_
  refine guardSh h (fun g4 h=>?_) (fun g4 h=>?_)
  ·refine ww ?_
   cases h
   exact eM [some 0] rfl
  refine ww ?_
  cases h
  exact eM [some 0] rfl
 rintro _ rfl
 clear ho
 refine ww ?_
 refine condBh h (fun c5 h=>?_) (fun c5 h=>?_)
 ·refine ww ?_
  cases h
  exact eF []
 refine ww ?_
 refine condSh h (fun c6 h=>?_) (fun c6 h=>?_)
 ·refine ww ?_
  cases h
  exact eF []
 refine ww ?_
 cases h
 exact eF []
def F116_l3:List Change→Nat→(List Object)→Option ((List Object))
 |[],o3_1,o3_0=>some o3_0
 |xo3::xs,o3_1,o3_0=>(F147 o3_0 xo3).bind fun t5=>F116_l3 xs (o3_1+1) t5.1
def F116(x0:TStore)(x1:Int):Option ((List Object)):=(cloneI x0.Base).bind fun t1=>(slI x0.History 0 ((IntKind.i64.wrap (x1-x0.Floor)))).bind fun s2=>(((ck (0≤s2.length∧s2.length≤4294967290)).bind fun u6=>F116_l3 s2 0 t1).bind fun o3=>some o3)
def a116:AFn:=⟨31,[(.tmp 4)],
 (.seq (.reg [sq 2 (.box (.t 0)),
sq 4 (.mv kN)])
 (.seq (.reg [sq 8 (.fieldA 3 (.t 2)),
sq 9 (.load none (.t 8)),
sq 10 (.call 156 [(.t 9)]),
sq 5 (.mv (.t 10))])
 (.seq (.seq (.reg [sq 11 (.fieldA 5 (.t 2)),
sq 12 (.load none (.t 11)),
sq 13 (.mv (.t 1)),
sq 14 (.fieldA 1 (.t 2)),
sq 15 (.load none (.t 14)),
sq 16 (.bin .sub (.t 13) (.t 15)),
sq 17 (.slice 25 (.t 12) none (some (.t 16)) none),
sq 18 (.len (.t 17)),
sq 19 (.mv (kI 0))])
 (.sem (.block 0 (.loop (.seq (.reg [sq 20 (.bin .lss (.t 19) (.t 18))])
 (.seq (.cond (.t 20)
 .skip
 (.exit 0))
 (.seq (.block 1 (.seq (.reg [sq 21 (.indexA 25 (.t 17) (.t 19)),
sq 22 (.load (some 25) (.t 21)),
sq 7 (.zbox [dI 0,dI 0,dS ⟨#[]⟩,dS ⟨#[]⟩,dS ⟨#[]⟩,dI 0,dI 0,dI 0,dI 0,dB false,dI 0,dN,dN,dN,dN,dI 0,dI 0,dS ⟨#[]⟩,dN,dN,dI 0,dI 0,dS ⟨#[]⟩,dN,dN]),
su (.store 25 (.t 7) (.t 22))])
 (.reg [sq 24 (.mv (.t 5)),
sq 25 (.load (some 25) (.t 7)),
sq 26 (.call 147 [(.t 24),(.t 25)]),
sq 23 (.mv (.t 26)),
sq 27 (.ext (.t 23) 0),
sq 28 (.ext (.t 23) 1),
sq 5 (.mv (.t 27))])))
 (.reg [sq 29 (.bin .add (.t 19) (kI 1)),
sq 19 (.mv (.t 29))]))))))))
 (.seq (.reg [sq 30 (.mv (.t 5)),
sq 4 (.mv (.t 30))])
 .ret))))⟩
theorem F116_ok{x0 x1 r}(h:F116 x0 x1=some r):CallD Tryz.prog 116 [.agg [dI x0.Rev,dI x0.Floor,dI x0.NextUid,dM (x0.Base.map eObject),dM (x0.Objects.map eObject),dM (x0.History.map eChange)],.c (dI x1)] [] (tupV [.c (.own 0 0 0 (r.length) none)]) [some (.arr 0 23 (r.map eObject))]:=by
 rw[F116]at h
 refine zc a116 (by kernel_rfl) rfl (ww ?_)
 obtain⟨t1,ht1,h⟩:=bi h
 refine cN [] (F156_ok ht1) trivial (ww ?_)
 obtain⟨s2,hs2,h⟩:=bi h
 refine t_slice (enc:=eChange) (xs:=x0.History) rfl rfl rfl (fun _=>rfl) hs2 (ww ?_)
 obtain⟨o3,ho,h⟩:=bi h
 refine cutS (fun s=>s=⟨[(5,.one (.c (.own 0 0 0 (o3.length) none)))],[some (.arr 0 23 (o3.map eObject))]⟩) ?_ ?_
 ·have h:=ho
  clear ho
  obtain⟨_,hk,h⟩:=bi h
  have hk:=ck_some hk
  refine ww ?_
  refine bL (fun j s=>∃(o3_1:Nat) (o3_0:List Object),(o3_1≤s2.length∧j=s2.length-o3_1)∧s=⟨[(5,.one (.c (.own 0 0 0 (o3_0.length) none))),(17,.one (.c (dM (s2.map eChange)))),(18,.one (.c (dI ((s2.length:Int))))),(19,.one (.c (dI ((o3_1:Int)))))],[some (.arr 0 23 (o3_0.map eObject))]⟩∧F116_l3 (s2.drop o3_1) o3_1 o3_0=some o3) (s2.length-0) [some 1] ⟨0,t1,⟨hk.1,rfl⟩,rfl,h⟩ ?_
  rintro _ _ ⟨o3_1,o3_0,⟨hi,rfl⟩,rfl,h⟩
  refine ww ?_
  refine condS (fun c4=>?_) (fun c4=>?_)
  ·obtain⟨xo3,hxo3,hd⟩:=countY (show(o3_1:Int)<(s2.length:Int)from c4)
   rw[hd,F116_l3]at h
   refine ww ?_
   refine t_idxF (enc:=eChange) (xs:=s2) rfl rfl hxo3 rfl (ww ?_)
   obtain⟨t5,ht5,h⟩:=bi h
   refine cN [0] (F147_ok (e0:=0) ht5) ⟨⟨rfl,trivial⟩,trivial⟩ ?_
   refine ww ?_
   rw[wrapN (by omega)]
   exact eL' (s2.length-(o3_1+1)) [some 0] ⟨o3_1+1,t5.1,⟨by omega,rfl⟩,rfl,h⟩ (by omega)
  rw[countN (show¬((o3_1:Int)<(s2.length:Int))from c4),F116_l3]at h
  refine ww ?_
  cases h
  exact eM [some 0] rfl
 rintro _ rfl
 clear ho
 refine ww ?_
 cases h
 exact eF [some 0]
def F83(x0:TStore)(x1:Int):Option ((List Object)×Int):=(((if x1<0 then some true else some (decide (x0.Rev<x1)))).bind fun o1=>(if o1=true then some (([],5))else(if x1<x0.Floor then some (([],10))else(F116 x0 x1).bind fun t5=>(F115 t5).bind fun t6=>some ((t6,0)))))
def a83:AFn:=⟨24,[(.tmp 4),(.tmp 5)],
 (.seq (.reg [sq 2 (.box (.t 0)),
sq 4 (.mv kN),
sq 5 (.mv (kI 0))])
 (.seq (.block 0 (.seq (.sem (.reg [sq 7 (.mv (.t 1)),
sq 8 (.bin .lss (.t 7) (kI 0)),
sq 9 (.mv (.t 8)),
zg 10 9 false (.mv (.t 1)),
zg 11 9 false (.fieldA 0 (.t 2)),
zg 12 9 false (.load none (.t 11)),
zg 13 9 false (.bin .gtr (.t 10) (.t 12)),
sq 14 (.pick (.t 9) (kB true) (.t 13)),
sq 6 (.mv (.t 14))]))
 (.cond (.t 6)
 (.seq (.reg [sq 4 (.mv kN),
sq 5 (.mv (kI 5))])
 .ret)
 (.seq (.reg [sq 16 (.mv (.t 1)),
sq 17 (.fieldA 1 (.t 2)),
sq 18 (.load none (.t 17)),
sq 19 (.bin .lss (.t 16) (.t 18)),
sq 15 (.mv (.t 19))])
 (.cond (.t 15)
 (.seq (.reg [sq 4 (.mv kN),
sq 5 (.mv (kI 10))])
 .ret)
 .skip)))))
 (.seq (.reg [sq 20 (.load (some 6) (.t 2)),
sq 21 (.mv (.t 1)),
sq 22 (.call 116 [(.t 20),(.t 21)]),
sq 23 (.call 115 [(.t 22)]),
sq 4 (.mv (.t 23)),
sq 5 (.mv (kI 0))])
 .ret)))⟩
theorem F83_ok{x0 x1 r}(h:F83 x0 x1=some r):CallD Tryz.prog 83 [.agg [dI x0.Rev,dI x0.Floor,dI x0.NextUid,dM (x0.Base.map eObject),dM (x0.Objects.map eObject),dM (x0.History.map eChange)],.c (dI x1)] [] (tupV [.c (.own 0 0 0 (r.1.length) none),.c (dI r.2)]) [some (.arr 0 23 (r.1.map eObject))]:=by
 rw[F83]at h
 refine zc a83 (by kernel_rfl) rfl (ww ?_)
 obtain⟨o1,ho,h⟩:=bi h
 refine cutS (fun s=>s=⟨[(1,.one (.c (dI x1))),(2,.one (.c (.pt 0 0))),(6,.one (.c (dB o1)))],[some (.box [dI x0.Rev,dI x0.Floor,dI x0.NextUid,dM (x0.Base.map eObject),dM (x0.Objects.map eObject),dM (x0.History.map eChange)])]⟩) ?_ ?_
 ·have h:=ho
  clear ho
  refine ww ?_
  refine guardSh h (fun g2 h=>?_) (fun g2 h=>?_)
  ·refine ww ?_
   cases h
   exact eM [some 0] rfl
  refine ww ?_
  cases h
  exact eM [some 0] rfl
 rintro _ rfl
 clear ho
 refine ww ?_
 refine condBh h (fun c3 h=>?_) (fun c3 h=>?_)
 ·refine ww ?_
  cases h
  exact eF [none]
 refine ww ?_
 refine condSh h (fun c4 h=>?_) (fun c4 h=>?_)
 ·refine ww ?_
  cases h
  exact eF [none]
 refine ww ?_
 obtain⟨t5,ht5,h⟩:=bi h
 refine cN [] (F116_ok ht5) trivial (ww ?_)
 obtain⟨t6,ht6,h⟩:=bi h
 refine callX_gen (as1:=[.c (dM (t5.map eObject))]) [(1,.arr 1 23 [])] [some 0,none] [] (F115_ok ht6) ⟨?_,rfl,?_⟩ ?_ ?_ ?_ ?_ ?_ ?_ ?_ ?_
 ·simp only[ZZ.down,Nat.reduceEqDiff,reduceCtorEq,Nat.reduceAdd,Nat.reduceLeDiff,Nat.reduceLT,Nat.reduceBNe,EE.down]
 ·simp only[ZZ.down,Nat.reduceEqDiff,reduceCtorEq,Nat.reduceAdd,Nat.reduceLeDiff,Nat.reduceLT,Nat.reduceBNe,EE.down]
 ·simp only[ZZ.down,Nat.reduceEqDiff,reduceCtorEq,Nat.reduceAdd,Nat.reduceLeDiff,Nat.reduceLT,Nat.reduceBNe,EE.down]
 ·rfl
 ·rfl
 ·simp[liveAll,A1.live,C.live]
 ·rfl
 ·decide
 ·exact trivial
 refine ww ?_
 cases h
 exact eF [some 2]
def F46_l5(t4:(List Object)×Int)(x1:Watcher):List Object→Nat→(List (ByteArray×Bool))→Option ((List (ByteArray×Bool)))
 |[],o5_1,o5_0=>some o5_0
 |xo5::xs,o5_1,o5_0=>(rdI t4.1 ((o5_1:Int))).bind fun y7=>(F33 y7.Meta).bind fun t8=>(F84 x1.Filter y7).bind fun t9=>F46_l5 t4 x1 xs (o5_1+1) ((putM t8 t9 o5_0))
def F46_l11(t1:(List Requirement))(x1:Watcher)(x2:Int):List Change→Nat→Int→(List (ByteArray×Bool))→(List Event)→Option (((List Requirement)×Int×(List Event)×Int) ⊕ (Int×(List Event)))
 |[],o11_3,o11_0,o11_1,o11_2=>some (Sum.inr ((o11_0,o11_2)))
 |xo11::xs,o11_3,o11_0,o11_1,o11_2=>(((if xo11.Rev≤x1.Rev then some (Sum.inr ((o11_0,o11_1,o11_2)))else(F33 xo11.Object.Meta).bind fun t15=>(F85 x1.Filter xo11 (((getM t15 o11_1).getD false))).bind fun t16=>(((if t16=1 then some ((putM t15 true o11_1))else some ((putM t15 (decide (t16=2)) o11_1)))).bind fun o17=>(if t16=0 then some (Sum.inr ((o11_0,o17,o11_2)))else(F86 xo11.Object).bind fun t20=>(apI o11_2 ([(⟨t16,xo11.Rev,(⟨(⟨xo11.Object.Meta.Kind,xo11.Object.Meta.Namespace,xo11.Object.Meta.Name,xo11.Object.Meta.Uid,xo11.Object.Meta.Version,xo11.Object.Meta.Generation,xo11.Object.Meta.Created,xo11.Object.Meta.Deleting,xo11.Object.Meta.DeleteAt,t20.1,t20.2.1,t20.2.2.1,t20.2.2.2.1⟩:Meta),(⟨t20.2.2.2.2.1,t20.2.2.2.2.2.1,t20.2.2.2.2.2.2.1,t20.2.2.2.2.2.2.2.1,t20.2.2.2.2.2.2.2.2.1⟩:TValue),(⟨t20.2.2.2.2.2.2.2.2.2.1,t20.2.2.2.2.2.2.2.2.2.2.1,t20.2.2.2.2.2.2.2.2.2.2.2.1,t20.2.2.2.2.2.2.2.2.2.2.2.2.1,t20.2.2.2.2.2.2.2.2.2.2.2.2.2⟩:TValue)⟩:Object)⟩:Event)])).bind fun a21=>(if(a21.length:Int)=(if x2<1 then 1 else x2)then((some ((t1,xo11.Rev,a21,0))).map Sum.inl).map Sum.inl else some (Sum.inr ((xo11.Rev,o17,a21))))))):Option ((((List Requirement)×Int×(List Event)×Int) ⊕ (Int×(List Event))) ⊕ (Int×(List (ByteArray×Bool))×(List Event)))).bind fun o13=>match o13 with|Sum.inl f=>some f|Sum.inr po13=>F46_l11 t1 x1 x2 xs (o11_3+1) po13.1 po13.2.1 po13.2.2)
def F46(x0:TStore)(x1:Watcher)(x2:Int):Option ((List Requirement)×Int×(List Event)×Int):=(F81 x1.Filter).bind fun t1=>(F82 x0 x1.Filter x1.Rev).bind fun t2=>(if¬(t2=0)then some ((t1,x1.Rev,[],t2))else(F83 x0 x1.Rev).bind fun t4=>(((ck (0≤t4.1.length∧t4.1.length≤4294967290)).bind fun u10=>F46_l5 t4 x1 t4.1 0 ([])).bind fun o5=>(((ck (0≤x0.History.length∧x0.History.length≤4294967290)).bind fun u23=>F46_l11 t1 x1 x2 x0.History 0 x1.Rev o5 ([]):Option (((List Requirement)×Int×(List Event)×Int) ⊕ (Int×(List Event)))).bind fun o11=>match o11 with|Sum.inl f=>some f|Sum.inr po11=>(((if po11.1<x0.Rev then(apI po11.2 ([(⟨4,x0.Rev,(⟨(⟨(⟨#[]⟩:ByteArray),(⟨#[]⟩:ByteArray),(⟨#[]⟩:ByteArray),0,0,0,0,false,0,[],[],[],[]⟩:Meta),(⟨0,0,(⟨#[]⟩:ByteArray),[],[]⟩:TValue),(⟨0,0,(⟨#[]⟩:ByteArray),[],[]⟩:TValue)⟩:Object)⟩:Event)])).bind fun a26=>some ((x0.Rev,a26))else some ((po11.1,po11.2)))).bind fun o24=>some ((t1,o24.1,o24.2,0))))))
def a46:AFn:=⟨131,[(.cell 6 (some 4)),(.tmp 7),(.tmp 8)],
 (.seq (.reg [sq 3 (.box (.t 0)),
sq 4 (.box (.t 1)),
sq 6 (.zbox [dS ⟨#[]⟩,dS ⟨#[]⟩,dN,dI 0]),
sq 7 (.mv kN),
sq 8 (.mv (kI 0))])
 (.seq (.regd [sq 21 (.fieldA 0 (.t 4)),
sd 22 (.load (some 3) (.t 21)) [0],
zn 23 (.call 81 [(.t 22)]) [0,1] [0,1],
sq 24 (.fieldA 3 (.t 4)),
sd 25 (.load none (.t 24)) [3],
sd 26 (.build [dS ⟨#[]⟩,dS ⟨#[]⟩,dN,dI 0] [(0,3,(.t 23)),(3,1,(.t 25))]) [0,1,2,3,4],
sq 9 (.zbox [dS ⟨#[]⟩,dS ⟨#[]⟩,dN,dI 0]),
⟨none,none,.store 4 (.t 9) (.t 26),[0,1,2,3,4,5,6],(.lone [])⟩])
 (.seq (.seq (.reg [sq 27 (.load (some 6) (.t 3)),
sq 28 (.fieldA 0 (.t 4)),
sq 29 (.load (some 3) (.t 28)),
sq 30 (.fieldA 3 (.t 4)),
sq 31 (.load none (.t 30)),
sq 32 (.call 82 [(.t 27),(.t 29),(.t 31)]),
sq 10 (.mv (.t 32))])
 (.seq (.reg [sq 33 (.mv (.t 10)),
sq 34 (.bin .neq (.t 33) (kI 0))])
 (.cond (.t 34)
 (.seq (.reg [sq 35 (.load (some 4) (.t 9)),
sq 36 (.mv (.t 10)),
su (.store 4 (.t 6) (.t 35)),
sq 7 (.mv kN),
sq 8 (.mv (.t 36))])
 .ret)
 .skip)))
 (.seq (.reg [sq 37 (.mv (.t 2)),
sq 38 (.max (.t 37) (kI 1)),
sq 2 (.mv (.t 38))])
 (.seq (.reg [sq 39 (.mkmap),
sq 11 (.mv (.t 39))])
 (.seq (.reg [sq 41 (.load (some 6) (.t 3)),
sq 42 (.fieldA 3 (.t 4)),
sq 43 (.load none (.t 42)),
sq 44 (.call 83 [(.t 41),(.t 43)]),
sq 40 (.mv (.t 44)),
sq 45 (.ext (.t 40) 0),
sq 46 (.ext (.t 40) 1),
sq 12 (.mv (.t 45)),
sq 13 (.mv (.t 46))])
 (.seq (.seq (.reg [sq 47 (.mv (.t 12)),
sq 48 (.len (.t 47)),
sq 49 (.mv (kI 0))])
 (.sem (.block 0 (.loop (.seq (.reg [sq 50 (.bin .lss (.t 49) (.t 48))])
 (.seq (.cond (.t 50)
 .skip
 (.exit 0))
 (.seq (.block 1 (.seq (.reg [sq 51 (.indexA 23 (.t 47) (.t 49)),
sq 52 (.load (some 23) (.t 51)),
sq 15 (.zbox [dS ⟨#[]⟩,dS ⟨#[]⟩,dS ⟨#[]⟩,dI 0,dI 0,dI 0,dI 0,dB false,dI 0,dN,dN,dN,dN,dI 0,dI 0,dS ⟨#[]⟩,dN,dN,dI 0,dI 0,dS ⟨#[]⟩,dN,dN]),
su (.store 23 (.t 15) (.t 52))])
 (.regd [sq 53 (.mv (.t 11)),
sq 54 (.fieldA 0 (.t 15)),
sd 55 (.load (some 13) (.t 54)) [1],
zn 56 (.call 33 [(.t 55)]) [1,2] [1,2],
sq 57 (.fieldA 0 (.t 4)),
sd 58 (.load (some 3) (.t 57)) [4],
sq 59 (.load (some 23) (.t 15)),
zl 60 (.call 84 [(.t 58),(.t 59)]) [1,2,3,4,5,6] [],
⟨none,none,.mset 1 (.t 53) (.t 56) (.t 60),[0,1,2,3,4,5,6,7],(.lone [])⟩])))
 (.reg [sq 61 (.bin .add (.t 49) (kI 1)),
sq 49 (.mv (.t 61))]))))))))
 (.seq (.reg [sq 16 (.mv kN)])
 (.seq (.seq (.reg [sq 62 (.fieldA 5 (.t 3)),
sq 63 (.load none (.t 62)),
sq 64 (.len (.t 63)),
sq 65 (.mv (kI 0))])
 (.sem (.block 2 (.loop (.seq (.reg [sq 66 (.bin .lss (.t 65) (.t 64))])
 (.seq (.cond (.t 66)
 .skip
 (.exit 2))
 (.seq (.sem (.block 3 (.seq (.reg [sq 67 (.indexA 25 (.t 63) (.t 65)),
sq 68 (.load (some 25) (.t 67)),
sq 18 (.zbox [dI 0,dI 0,dS ⟨#[]⟩,dS ⟨#[]⟩,dS ⟨#[]⟩,dI 0,dI 0,dI 0,dI 0,dB false,dI 0,dN,dN,dN,dN,dI 0,dI 0,dS ⟨#[]⟩,dN,dN,dI 0,dI 0,dS ⟨#[]⟩,dN,dN]),
su (.store 25 (.t 18) (.t 68))])
 (.seq (.seq (.reg [sq 69 (.fieldA 0 (.t 18)),
sq 70 (.load none (.t 69)),
sq 71 (.fieldA 3 (.t 4)),
sq 72 (.load none (.t 71)),
sq 73 (.bin .leq (.t 70) (.t 72))])
 (.cond (.t 73)
 (.exit 3)
 .skip))
 (.seq (.reg [sq 74 (.fieldA 2 (.t 18)),
sq 75 (.fieldA 0 (.t 74)),
sq 76 (.load (some 13) (.t 75)),
sq 77 (.call 33 [(.t 76)]),
sq 19 (.mv (.t 77))])
 (.seq (.reg [sq 78 (.fieldA 0 (.t 4)),
sq 79 (.load (some 3) (.t 78)),
sq 80 (.load (some 25) (.t 18)),
sq 81 (.mv (.t 11)),
sq 82 (.mv (.t 19)),
sq 83 (.mget 1 false (.c (dB false)) (.t 81) (.t 82)),
sq 84 (.call 85 [(.t 79),(.t 80),(.t 83)]),
sq 20 (.mv (.t 84))])
 (.seq (.sem (.reg [sq 85 (.mv (.t 11)),
sq 86 (.mv (.t 19)),
sq 87 (.mv (.t 20)),
sq 88 (.bin .eql (.t 87) (kI 1)),
sq 89 (.mv (.t 88)),
zg 90 89 false (.mv (.t 20)),
zg 91 89 false (.bin .eql (.t 90) (kI 2)),
sq 92 (.pick (.t 89) (kB true) (.t 91)),
su (.mset 1 (.t 85) (.t 86) (.t 92))]))
 (.seq (.seq (.reg [sq 93 (.mv (.t 20)),
sq 94 (.bin .eql (.t 93) (kI 0))])
 (.cond (.t 94)
 (.exit 3)
 .skip))
 (.seq (.regd [sq 95 (.mv (.t 16)),
sq 96 (.mv (.t 20)),
sq 97 (.fieldA 0 (.t 18)),
sd 98 (.load none (.t 97)) [2],
sq 99 (.fieldA 2 (.t 18)),
sd 100 (.load (some 23) (.t 99)) [4],
zl 101 (.call 86 [(.t 100)]) [4,5] [18,97],
zl 102 (.build [dI 0,dI 0,dS ⟨#[]⟩,dS ⟨#[]⟩,dS ⟨#[]⟩,dI 0,dI 0,dI 0,dI 0,dB false,dI 0,dN,dN,dN,dN,dI 0,dI 0,dS ⟨#[]⟩,dN,dN,dI 0,dI 0,dS ⟨#[]⟩,dN,dN] [(0,1,(.t 96)),(1,1,(.t 98)),(2,23,(.t 101))]) [1,2,3,4,5,6] [],
zl 103 (.bslice 25 [(.t 102)]) [1,2,3,4,5,6,7] [],
zl 104 (.app 25 368 (.t 95) (.t 103)) [0,1,2,3,4,5,6,7,8] [],
sd 16 (.mv (.t 104)) [0,1,2,3,4,5,6,7,8,9]])
 (.seq (.reg [sq 105 (.fieldA 0 (.t 18)),
sq 106 (.load none (.t 105)),
sq 107 (.fieldA 3 (.t 9)),
⟨none,none,.store 1 (.t 107) (.t 106),[],(.lone [18,105,9])⟩])
 (.seq (.reg [sq 108 (.mv (.t 16)),
sq 109 (.len (.t 108)),
sq 110 (.mv (.t 2)),
sq 111 (.bin .eql (.t 109) (.t 110))])
 (.cond (.t 111)
 (.seq (.reg [sq 112 (.load (some 4) (.t 9)),
sq 113 (.mv (.t 16)),
su (.store 4 (.t 6) (.t 112)),
sq 7 (.mv (.t 113)),
sq 8 (.mv (kI 0))])
 .ret)
 .skip))))))))))))
 (.reg [sq 114 (.bin .add (.t 65) (kI 1)),
sq 65 (.mv (.t 114))]))))))))
 (.seq (.sem (.seq (.reg [sq 115 (.fieldA 0 (.t 3)),
sq 116 (.load none (.t 115)),
sq 117 (.fieldA 3 (.t 9)),
sq 118 (.load none (.t 117)),
sq 119 (.bin .gtr (.t 116) (.t 118))])
 (.cond (.t 119)
 (.seq (.reg [sq 120 (.mv (.t 16)),
sq 121 (.fieldA 0 (.t 3)),
sq 122 (.load none (.t 121)),
sq 123 (.build [dI 0,dI 0,dS ⟨#[]⟩,dS ⟨#[]⟩,dS ⟨#[]⟩,dI 0,dI 0,dI 0,dI 0,dB false,dI 0,dN,dN,dN,dN,dI 0,dI 0,dS ⟨#[]⟩,dN,dN,dI 0,dI 0,dS ⟨#[]⟩,dN,dN] [(0,1,(kI 4)),(1,1,(.t 122))]),
sq 124 (.bslice 25 [(.t 123)]),
sq 125 (.app 25 368 (.t 120) (.t 124)),
sq 16 (.mv (.t 125))])
 (.reg [sq 126 (.fieldA 0 (.t 3)),
sq 127 (.load none (.t 126)),
sq 128 (.fieldA 3 (.t 9)),
⟨none,none,.store 1 (.t 128) (.t 127),[],(.lone [3,126,9])⟩]))
 .skip)))
 (.seq (.reg [sq 129 (.load (some 4) (.t 9)),
sq 130 (.mv (.t 16)),
su (.store 4 (.t 6) (.t 129)),
sq 7 (.mv (.t 130)),
sq 8 (.mv (kI 0))])
 .ret)))))))))))⟩
theorem F46_ok{x0 x1 x2 r}(h:F46 x0 x1 x2=some r):CallD Tryz.prog 46 [.agg [dI x0.Rev,dI x0.Floor,dI x0.NextUid,dM (x0.Base.map eObject),dM (x0.Objects.map eObject),dM (x0.History.map eChange)],.agg [dS x1.Filter.Kind,dS x1.Filter.Namespace,dM (x1.Filter.Selector.map eRequirement),dI x1.Rev],.c (dI x2)] [] (tupV [.agg [dS x1.Filter.Kind,dS x1.Filter.Namespace,.own 0 0 0 (r.1.length) none,dI r.2.1],.c (.own 1 0 0 (r.2.2.1.length) none),.c (dI r.2.2.2)]) [some (.arr 0 3 (r.1.map eRequirement)),some (.arr 0 25 (r.2.2.1.map eEvent))]:=by
 rw[F46]at h
 refine zc a46 (by kernel_rfl) rfl (ww ?_)
 obtain⟨t1,ht1,h⟩:=bi h
 refine cN [] (F81_ok ht1) trivial (ww ?_)
 refine kD_new (by simp[wrs,allW,hset]) (ww ?_)
 refine kD_new (by simp[wrs,allW,hset]) (ww ?_)
 obtain⟨t2,ht2,h⟩:=bi h
 refine cN [] (F82_ok ht2) trivial (ww ?_)
 refine condSh h (fun c3 h=>?_) (fun c3 h=>?_)
 ·refine ww ?_
  cases h
  exact eF [some 3,none]
 refine ww ?_
 refine t_mkmap1 (κ:=ByteArray) (α:=Bool) (enc:=(fun x=> .v (.bool x))) Value.string (ww ?_)
 obtain⟨t4,ht4,h⟩:=bi h
 refine cN [] (F83_ok ht4) trivial (ww ?_)
 obtain⟨o5,ho,h⟩:=bi h
 refine cutS (fun s=>s=⟨[(2,.one (.c (dI ((if x2<1 then 1 else x2))))),(3,.one (.c (.pt 0 0))),(4,.one (.c (.pt 1 0))),(6,.one (.c (.pt 2 0))),(9,.one (.c (.pt 3 0))),(11,.one (.c (.mref 5)))],[some (.box [dI x0.Rev,dI x0.Floor,dI x0.NextUid,dM (x0.Base.map eObject),dM (x0.Objects.map eObject),dM (x0.History.map eChange)]),some (.box [dS x1.Filter.Kind,dS x1.Filter.Namespace,dM (x1.Filter.Selector.map eRequirement),dI x1.Rev]),some (.box [dS ((⟨#[]⟩:ByteArray)),dS ((⟨#[]⟩:ByteArray)),dN,dI 0]),some (.box [dS x1.Filter.Kind,dS x1.Filter.Namespace,.own 4 0 0 (t1.length) none,dI x1.Rev]),some (.arr 0 3 (t1.map eRequirement)),some (.map (eM1 Value.string (fun x=> .v (.bool x)) o5))]⟩) ?_ ?_
 ·have h:=ho
  clear ho
  obtain⟨_,hk,h⟩:=bi h
  have hk:=ck_some hk
  refine ww ?_
  refine bL (fun j s=>∃(o5_1:Nat) (o5_0:List (ByteArray×Bool)),(o5_1≤t4.1.length∧j=t4.1.length-o5_1)∧s=⟨[(2,.one (.c (dI ((if x2<1 then 1 else x2))))),(3,.one (.c (.pt 0 0))),(4,.one (.c (.pt 1 0))),(6,.one (.c (.pt 2 0))),(9,.one (.c (.pt 3 0))),(11,.one (.c (.mref 5))),(47,.one (.c (.own 6 0 0 (t4.1.length) none))),(48,.one (.c (dI ((t4.1.length:Int))))),(49,.one (.c (dI ((o5_1:Int)))))],[some (.box [dI x0.Rev,dI x0.Floor,dI x0.NextUid,dM (x0.Base.map eObject),dM (x0.Objects.map eObject),dM (x0.History.map eChange)]),some (.box [dS x1.Filter.Kind,dS x1.Filter.Namespace,dM (x1.Filter.Selector.map eRequirement),dI x1.Rev]),some (.box [dS ((⟨#[]⟩:ByteArray)),dS ((⟨#[]⟩:ByteArray)),dN,dI 0]),some (.box [dS x1.Filter.Kind,dS x1.Filter.Namespace,.own 4 0 0 (t1.length) none,dI x1.Rev]),some (.arr 0 3 (t1.map eRequirement)),some (.map (eM1 Value.string (fun x=> .v (.bool x)) o5_0)),some (.arr 0 23 (t4.1.map eObject))]⟩∧F46_l5 t4 x1 (t4.1.drop o5_1) o5_1 o5_0=some o5) (t4.1.length-0) [some 0,some 1,some 2,some 4,some 3,some 5,some 6] ⟨0,[],⟨hk.1,rfl⟩,rfl,h⟩ ?_
  rintro _ _ ⟨o5_1,o5_0,⟨hi,rfl⟩,rfl,h⟩
  refine ww ?_
  refine condS (fun c6=>?_) (fun c6=>?_)
  ·obtain⟨xo5,hxo5,hd⟩:=countY (show(o5_1:Int)<(t4.1.length:Int)from c6)
   rw[hd,F46_l5]at h
   refine ww ?_
   obtain⟨y7,hy7,h⟩:=bi h
   refine t_idxO (enc:=eObject) (xs:=t4.1) rfl rfl rfl (by first|rfl|simp only[List.length_set]|exact(clrL_len (slI_len (by assumption))).symm) hy7 (ww ?_)
   refine LdRow.rd (rdI_some hy7).2.1 (ww ?_)
   obtain⟨t8,ht8,h⟩:=bi h
   refine cN [] (F33_ok ht8) trivial (ww ?_)
   obtain⟨t9,ht9,h⟩:=bi h
   refine cN [] (F84_ok ht9) trivial (ww ?_)
   refine t_mset1 (enc:=(fun x=> .v (.bool x))) (l:=o5_0) (x:=t9) kkS rfl rfl rfl rfl (ww ?_)
   rw[wrapN (by omega)]
   exact eL' (t4.1.length-(o5_1+1)) [some 0,some 1,some 2,some 3,some 4,some 5,some 6] ⟨o5_1+1,(putM t8 t9 o5_0),⟨by omega,rfl⟩,rfl,h⟩ (by omega)
  rw[countN (show¬((o5_1:Int)<(t4.1.length:Int))from c6),F46_l5]at h
  refine ww ?_
  cases h
  exact eM [some 0,some 1,some 2,some 3,some 4,some 5] rfl
 rintro _ rfl
 clear ho
 refine ww ?_
 obtain⟨o11,ho,h⟩:=bi h
 refine cutS (fun s=>∃po11,o11=Sum.inr po11∧s=⟨[(3,.one (.c (.pt 0 0))),(6,.one (.c (.pt 1 0))),(9,.one (.c (.pt 2 0))),(16,.one (.c (.own 4 0 0 (po11.2.length) none)))],[some (.box [dI x0.Rev,dI x0.Floor,dI x0.NextUid,dM (x0.Base.map eObject),dM (x0.Objects.map eObject),dM (x0.History.map eChange)]),some (.box [dS ((⟨#[]⟩:ByteArray)),dS ((⟨#[]⟩:ByteArray)),dN,dI 0]),some (.box [dS x1.Filter.Kind,dS x1.Filter.Namespace,.own 3 0 0 (t1.length) none,dI po11.1]),some (.arr 0 3 (t1.map eRequirement)),some (.arr 0 25 (po11.2.map eEvent))]⟩) ?_ ?_
 ·have h0o11:=h
  have h:=ho
  clear ho
  obtain⟨_,hk,h⟩:=bi h
  have hk:=ck_some hk
  refine ww ?_
  refine bL (fun j s=>∃(o11_3:Nat) (o11_0:Int) (o11_1:List (ByteArray×Bool)) (o11_2:List Event),(o11_3≤x0.History.length∧j=x0.History.length-o11_3)∧s=⟨[(2,.one (.c (dI ((if x2<1 then 1 else x2))))),(3,.one (.c (.pt 0 0))),(4,.one (.c (.pt 1 0))),(6,.one (.c (.pt 2 0))),(9,.one (.c (.pt 3 0))),(11,.one (.c (.mref 5))),(16,.one (.c (.own 6 0 0 (o11_2.length) none))),(63,.one (.c (dM (x0.History.map eChange)))),(64,.one (.c (dI ((x0.History.length:Int))))),(65,.one (.c (dI ((o11_3:Int)))))],[some (.box [dI x0.Rev,dI x0.Floor,dI x0.NextUid,dM (x0.Base.map eObject),dM (x0.Objects.map eObject),dM (x0.History.map eChange)]),some (.box [dS x1.Filter.Kind,dS x1.Filter.Namespace,dM (x1.Filter.Selector.map eRequirement),dI x1.Rev]),some (.box [dS ((⟨#[]⟩:ByteArray)),dS ((⟨#[]⟩:ByteArray)),dN,dI 0]),some (.box [dS x1.Filter.Kind,dS x1.Filter.Namespace,.own 4 0 0 (t1.length) none,dI o11_0]),some (.arr 0 3 (t1.map eRequirement)),some (.map (eM1 Value.string (fun x=> .v (.bool x)) o11_1)),some (.arr 0 25 (o11_2.map eEvent))]⟩∧F46_l11 t1 x1 x2 (x0.History.drop o11_3) o11_3 o11_0 o11_1 o11_2=some o11) (x0.History.length-0) [some 0,some 1,some 2,some 3,some 4,some 5,none] ⟨0,x1.Rev,o5,[],⟨hk.1,rfl⟩,rfl,h⟩ ?_
  rintro _ _ ⟨o11_3,o11_0,o11_1,o11_2,⟨hi,rfl⟩,rfl,h⟩
  refine ww ?_
  refine condS (fun c12=>?_) (fun c12=>?_)
  ·obtain⟨xo11,hxo11,hd⟩:=countY (show(o11_3:Int)<(x0.History.length:Int)from c12)
   rw[hd,F46_l11]at h
   refine ww ?_
   obtain⟨o13,ho,h⟩:=bi h
   refine cutS (fun s=>∃po13,o13=Sum.inr po13∧s=⟨[(2,.one (.c (dI ((if x2<1 then 1 else x2))))),(3,.one (.c (.pt 0 0))),(4,.one (.c (.pt 1 0))),(6,.one (.c (.pt 2 0))),(9,.one (.c (.pt 3 0))),(11,.one (.c (.mref 5))),(16,.one (.c (.own 6 0 0 (po13.2.2.length) none))),(63,.one (.c (dM (x0.History.map eChange)))),(64,.one (.c (dI ((x0.History.length:Int))))),(65,.one (.c (dI ((o11_3:Int)))))],[some (.box [dI x0.Rev,dI x0.Floor,dI x0.NextUid,dM (x0.Base.map eObject),dM (x0.Objects.map eObject),dM (x0.History.map eChange)]),some (.box [dS x1.Filter.Kind,dS x1.Filter.Namespace,dM (x1.Filter.Selector.map eRequirement),dI x1.Rev]),some (.box [dS ((⟨#[]⟩:ByteArray)),dS ((⟨#[]⟩:ByteArray)),dN,dI 0]),some (.box [dS x1.Filter.Kind,dS x1.Filter.Namespace,.own 4 0 0 (t1.length) none,dI po13.1]),some (.arr 0 3 (t1.map eRequirement)),some (.map (eM1 Value.string (fun x=> .v (.bool x)) po13.2.1)),some (.arr 0 25 (po13.2.2.map eEvent))]⟩) ?_ ?_
   ·have h0o13:=h
    have h:=ho
    clear ho
    refine ww ?_
    refine t_idxF (enc:=eChange) (xs:=x0.History) rfl rfl hxo11 rfl (ww ?_)
    refine condSh h (fun c14 h=>?_) (fun c14 h=>?_)
    ·refine ww ?_
     cases h
     exact eM [some 0,some 1,some 2,some 3,some 4,some 5,some 6] ⟨_,rfl,rfl⟩
    refine ww ?_
    obtain⟨t15,ht15,h⟩:=bi h
    refine cN [] (F33_ok ht15) trivial (ww ?_)
    refine t_mget1 (enc:=(fun x=> .v (.bool x))) (l:=o11_1) (z:=false) kkS rfl rfl rfl rfl (ww ?_)
    obtain⟨t16,ht16,h⟩:=bi h
    refine cN [] (F85_ok ht16) trivial (ww ?_)
    obtain⟨o17,ho,h⟩:=bi h
    refine cutS (fun s=>s=⟨[(2,.one (.c (dI ((if x2<1 then 1 else x2))))),(3,.one (.c (.pt 0 0))),(4,.one (.c (.pt 1 0))),(6,.one (.c (.pt 2 0))),(9,.one (.c (.pt 3 0))),(11,.one (.c (.mref 5))),(16,.one (.c (.own 6 0 0 (o11_2.length) none))),(18,.one (.c (.pt 7 0))),(20,.one (.c (dI t16))),(63,.one (.c (dM (x0.History.map eChange)))),(64,.one (.c (dI ((x0.History.length:Int))))),(65,.one (.c (dI ((o11_3:Int)))))],[some (.box [dI x0.Rev,dI x0.Floor,dI x0.NextUid,dM (x0.Base.map eObject),dM (x0.Objects.map eObject),dM (x0.History.map eChange)]),some (.box [dS x1.Filter.Kind,dS x1.Filter.Namespace,dM (x1.Filter.Selector.map eRequirement),dI x1.Rev]),some (.box [dS ((⟨#[]⟩:ByteArray)),dS ((⟨#[]⟩:ByteArray)),dN,dI 0]),some (.box [dS x1.Filter.Kind,dS x1.Filter.Namespace,.own 4 0 0 (t1.length) none,dI o11_0]),some (.arr 0 3 (t1.map eRequirement)),some (.map (eM1 Value.string (fun x=> .v (.bool x)) o17)),some (.arr 0 25 (o11_2.map eEvent)),some (.box [dI xo11.Rev,dI xo11.Kind,dS xo11.Object.Meta.Kind,dS xo11.Object.Meta.Namespace,dS xo11.Object.Meta.Name,dI xo11.Object.Meta.Uid,dI xo11.Object.Meta.Version,dI xo11.Object.Meta.Generation,dI xo11.Object.Meta.Created,dB xo11.Object.Meta.Deleting,dI xo11.Object.Meta.DeleteAt,dM (xo11.Object.Meta.Labels.map eLabel),dM (xo11.Object.Meta.Owners.map eOwner),dM (xo11.Object.Meta.Finalizers.map eS),dM (xo11.Object.Meta.Managers.map eManager),dI xo11.Object.Spec.Kind,dI xo11.Object.Spec.N,dS xo11.Object.Spec.S,dM (xo11.Object.Spec.List_.map eTValue),dM (xo11.Object.Spec.Fields.map eTField),dI xo11.Object.Status.Kind,dI xo11.Object.Status.N,dS xo11.Object.Status.S,dM (xo11.Object.Status.List_.map eTValue),dM (xo11.Object.Status.Fields.map eTField)])]⟩) ?_ ?_
    ·have h:=ho
     clear ho
     refine ww ?_
     refine guardSh h (fun g18 h=>?_) (fun g18 h=>?_)
     ·refine ww ?_
      refine t_mset1 (enc:=(fun x=> .v (.bool x))) (l:=o11_1) (x:=true) kkS rfl rfl rfl rfl (ww ?_)
      cases h
      exact eM [some 0,some 1,some 2,some 3,some 4,some 5,some 6,some 7] rfl
     refine ww ?_
     refine t_mset1 (enc:=(fun x=> .v (.bool x))) (l:=o11_1) (x:=decide (t16=2)) kkS rfl rfl rfl rfl (ww ?_)
     cases h
     exact eM [some 0,some 1,some 2,some 3,some 4,some 5,some 6,some 7] rfl
    rintro _ rfl
    clear ho
    refine ww ?_
    refine condSh h (fun c19 h=>?_) (fun c19 h=>?_)
    ·refine ww ?_
     cases h
     exact eM [some 0,some 1,some 2,some 3,some 4,some 5,some 6] ⟨_,rfl,rfl⟩
    refine ww ?_
    obtain⟨t20,ht20,h⟩:=bi h
    refine cN [] (F86_ok ht20) trivial (ww ?_)
    refine t_bslice (enc:=eEvent) (ys:=[(⟨t16,xo11.Rev,(⟨(⟨xo11.Object.Meta.Kind,xo11.Object.Meta.Namespace,xo11.Object.Meta.Name,xo11.Object.Meta.Uid,xo11.Object.Meta.Version,xo11.Object.Meta.Generation,xo11.Object.Meta.Created,xo11.Object.Meta.Deleting,xo11.Object.Meta.DeleteAt,t20.1,t20.2.1,t20.2.2.1,t20.2.2.2.1⟩:Meta),(⟨t20.2.2.2.2.1,t20.2.2.2.2.2.1,t20.2.2.2.2.2.2.1,t20.2.2.2.2.2.2.2.1,t20.2.2.2.2.2.2.2.2.1⟩:TValue),(⟨t20.2.2.2.2.2.2.2.2.2.1,t20.2.2.2.2.2.2.2.2.2.2.1,t20.2.2.2.2.2.2.2.2.2.2.2.1,t20.2.2.2.2.2.2.2.2.2.2.2.2.1,t20.2.2.2.2.2.2.2.2.2.2.2.2.2⟩:TValue)⟩:Object)⟩:Event)]) rfl rfl (by simp[A1.cells]) (by first|rfl|(simp only[List.drop_zero,take_mapL];rfl)|(simp only[lit,List.map_cons,List.map_nil,List.drop_zero,take_mapL,EE.down];done)|(simp only[lit,List.map_cons,List.map_nil,List.drop_zero,take_mapL,EE.down];rfl)) (ww ?_)
    obtain⟨a21,ha21,h⟩:=bi h
    refine t_app (enc:=eEvent) (xs:=o11_2) rfl rfl (by first|rfl|simp only[List.length_set]|exact(clrL_len (slI_len (by assumption))).symm) rfl (rows_full (enc:=eEvent) (by first|rfl|simp only[List.length_set]|exact(clrL_len (slI_len (by assumption))).symm) rfl) ha21 (ww ?_)
    refine condSh h (fun c22 h=>?_) (fun c22 h=>?_)
    ·refine ww ?_
     obtain⟨fh0o13,hfh0o13,rfl⟩:=Option.map_eq_some_iff.1 h
     have h:=hfh0o13.trans h0o13
     obtain⟨fh0o11,hfh0o11,rfl⟩:=Option.map_eq_some_iff.1 h
     have h:=hfh0o11.trans h0o11
     cases h
     exact eF [some 4,some 6]
    refine ww ?_
    cases h
    exact eM [some 0,some 1,some 2,some 3,some 4,some 5,some 6] ⟨_,rfl,rfl⟩
   rintro _ ⟨po13,rfl,rfl⟩
   clear ho
   dsimp only at h
   refine ww ?_
   rw[wrapN (by omega)]
   exact eL' (x0.History.length-(o11_3+1)) [some 0,some 1,some 2,some 3,some 4,some 5,some 6] ⟨o11_3+1,po13.1,po13.2.1,po13.2.2,⟨by omega,rfl⟩,rfl,h⟩ (by omega)
  rw[countN (show¬((o11_3:Int)<(x0.History.length:Int))from c12),F46_l11]at h
  refine ww ?_
  cases h
  exact eM [some 0,some 2,some 3,some 4,some 6] ⟨_,rfl,rfl⟩
 rintro _ ⟨po11,rfl,rfl⟩
 clear ho
 dsimp only at h
 refine ww ?_
 obtain⟨o24,ho,h⟩:=bi h
 refine cutS (fun s=>s=⟨[(6,.one (.c (.pt 0 0))),(9,.one (.c (.pt 1 0))),(16,.one (.c (.own 3 0 0 (o24.2.length) none)))],[some (.box [dS ((⟨#[]⟩:ByteArray)),dS ((⟨#[]⟩:ByteArray)),dN,dI 0]),some (.box [dS x1.Filter.Kind,dS x1.Filter.Namespace,.own 2 0 0 (t1.length) none,dI o24.1]),some (.arr 0 3 (t1.map eRequirement)),some (.arr 0 25 (o24.2.map eEvent))]⟩) ?_ ?_
 ·have h:=ho
  clear ho
  refine ww ?_
  refine condSh h (fun c25 h=>?_) (fun c25 h=>?_)
  ·refine ww ?_
   refine t_bslice (enc:=eEvent) (ys:=[(⟨4,x0.Rev,(⟨(⟨(⟨#[]⟩:ByteArray),(⟨#[]⟩:ByteArray),(⟨#[]⟩:ByteArray),0,0,0,0,false,0,[],[],[],[]⟩:Meta),(⟨0,0,(⟨#[]⟩:ByteArray),[],[]⟩:TValue),(⟨0,0,(⟨#[]⟩:ByteArray),[],[]⟩:TValue)⟩:Object)⟩:Event)]) rfl rfl (by simp[A1.cells]) (by first|rfl|(simp only[List.drop_zero,take_mapL];rfl)|(simp only[lit,List.map_cons,List.map_nil,List.drop_zero,take_mapL,EE.down];done)|(simp only[lit,List.map_cons,List.map_nil,List.drop_zero,take_mapL,EE.down];rfl)) (ww ?_)
   obtain⟨a26,ha26,h⟩:=bi h
   refine t_app (enc:=eEvent) (xs:=po11.2) rfl rfl (by first|rfl|simp only[List.length_set]|exact(clrL_len (slI_len (by assumption))).symm) rfl (rows_full (enc:=eEvent) (by first|rfl|simp only[List.length_set]|exact(clrL_len (slI_len (by assumption))).symm) rfl) ha26 (ww ?_)
   cases h
   exact eM [some 1,some 2,some 3,some 4] rfl
  refine ww ?_
  cases h
  exact eM [some 1,some 2,some 3,some 4] rfl
 rintro _ rfl
 clear ho
 refine ww ?_
 cases h
 exact eF [some 2,some 3]
def F32(x0:TStore)(x1:ByteArray)(x2:Int):Option (TStore×Object×Int):=(F52 x0.Objects x1).bind fun t1=>(if t1<0 then some ((x0,(⟨(⟨(⟨#[]⟩:ByteArray),(⟨#[]⟩:ByteArray),(⟨#[]⟩:ByteArray),0,0,0,0,false,0,[],[],[],[]⟩:Meta),(⟨0,0,(⟨#[]⟩:ByteArray),[],[]⟩:TValue),(⟨0,0,(⟨#[]⟩:ByteArray),[],[]⟩:TValue)⟩:Object),7))else(rdI x0.Objects t1).bind fun y3=>(((if¬(x2=0)then some (decide (¬(x2=y3.Meta.Version)))else some false)).bind fun o4=>(if o4=true then some ((x0,(⟨(⟨(⟨#[]⟩:ByteArray),(⟨#[]⟩:ByteArray),(⟨#[]⟩:ByteArray),0,0,0,0,false,0,[],[],[],[]⟩:Meta),(⟨0,0,(⟨#[]⟩:ByteArray),[],[]⟩:TValue),(⟨0,0,(⟨#[]⟩:ByteArray),[],[]⟩:TValue)⟩:Object),9))else(if 1000000000000000≤x0.Rev then some ((x0,(⟨(⟨(⟨#[]⟩:ByteArray),(⟨#[]⟩:ByteArray),(⟨#[]⟩:ByteArray),0,0,0,0,false,0,[],[],[],[]⟩:Meta),(⟨0,0,(⟨#[]⟩:ByteArray),[],[]⟩:TValue),(⟨0,0,(⟨#[]⟩:ByteArray),[],[]⟩:TValue)⟩:Object),15))else(F58 x0 2 y3).bind fun t8=>some (((⟨t8.1,t8.2.1,x0.NextUid,t8.2.2.1,t8.2.2.2.1,t8.2.2.2.2⟩:TStore),(⟨(⟨y3.Meta.Kind,y3.Meta.Namespace,y3.Meta.Name,y3.Meta.Uid,(IntKind.i64.wrap (x0.Rev+1)),y3.Meta.Generation,y3.Meta.Created,y3.Meta.Deleting,y3.Meta.DeleteAt,y3.Meta.Labels,y3.Meta.Owners,y3.Meta.Finalizers,y3.Meta.Managers⟩:Meta),y3.Spec,y3.Status⟩:Object),0))))))
def a32:AFn:=⟨48,[(.cell 6 (some 6)),(.cell 7 (some 23)),(.tmp 8)],
 (.seq (.reg [sq 3 (.box (.t 0)),
sq 6 (.zbox [dI 0,dI 0,dI 0,dN,dN,dN]),
sq 7 (.zbox [dS ⟨#[]⟩,dS ⟨#[]⟩,dS ⟨#[]⟩,dI 0,dI 0,dI 0,dI 0,dB false,dI 0,dN,dN,dN,dN,dI 0,dI 0,dS ⟨#[]⟩,dN,dN,dI 0,dI 0,dS ⟨#[]⟩,dN,dN]),
sq 8 (.mv (kI 0))])
 (.seq (.reg [sq 11 (.fieldA 4 (.t 3)),
sq 12 (.load none (.t 11)),
sq 13 (.mv (.t 1)),
sq 14 (.call 52 [(.t 12),(.t 13)]),
sq 9 (.mv (.t 14))])
 (.seq (.seq (.reg [sq 15 (.mv (.t 9)),
sq 16 (.bin .lss (.t 15) (kI 0))])
 (.cond (.t 16)
 (.seq (.reg [sq 17 (.load (some 6) (.t 3)),
sq 18 (.build [dS ⟨#[]⟩,dS ⟨#[]⟩,dS ⟨#[]⟩,dI 0,dI 0,dI 0,dI 0,dB false,dI 0,dN,dN,dN,dN,dI 0,dI 0,dS ⟨#[]⟩,dN,dN,dI 0,dI 0,dS ⟨#[]⟩,dN,dN] []),
su (.store 6 (.t 6) (.t 17)),
su (.store 23 (.t 7) (.t 18)),
sq 8 (.mv (kI 7))])
 .ret)
 .skip))
 (.seq (.reg [sq 19 (.fieldA 4 (.t 3)),
sq 20 (.load none (.t 19)),
sq 21 (.mv (.t 9)),
sq 22 (.indexA 23 (.t 20) (.t 21)),
sq 23 (.load (some 23) (.t 22)),
sq 10 (.zbox [dS ⟨#[]⟩,dS ⟨#[]⟩,dS ⟨#[]⟩,dI 0,dI 0,dI 0,dI 0,dB false,dI 0,dN,dN,dN,dN,dI 0,dI 0,dS ⟨#[]⟩,dN,dN,dI 0,dI 0,dS ⟨#[]⟩,dN,dN]),
su (.store 23 (.t 10) (.t 23))])
 (.seq (.seq (.sem (.reg [sq 24 (.mv (.t 2)),
sq 25 (.bin .neq (.t 24) (kI 0)),
sq 26 (.mv (.t 25)),
zg 27 26 true (.mv (.t 2)),
zg 28 26 true (.fieldA 0 (.t 10)),
zg 29 26 true (.fieldA 4 (.t 28)),
zg 30 26 true (.load none (.t 29)),
zg 31 26 true (.bin .neq (.t 27) (.t 30)),
zl 32 (.pick (.t 26) (.t 31) (kB false)) [] [10,28,29]]))
 (.cond (.t 32)
 (.seq (.reg [sq 33 (.load (some 6) (.t 3)),
sq 34 (.build [dS ⟨#[]⟩,dS ⟨#[]⟩,dS ⟨#[]⟩,dI 0,dI 0,dI 0,dI 0,dB false,dI 0,dN,dN,dN,dN,dI 0,dI 0,dS ⟨#[]⟩,dN,dN,dI 0,dI 0,dS ⟨#[]⟩,dN,dN] []),
su (.store 6 (.t 6) (.t 33)),
su (.store 23 (.t 7) (.t 34)),
sq 8 (.mv (kI 9))])
 .ret)
 .skip))
 (.seq (.seq (.reg [sq 35 (.fieldA 0 (.t 3)),
sq 36 (.load none (.t 35)),
sq 37 (.bin .geq (.t 36) (kI 1000000000000000))])
 (.cond (.t 37)
 (.seq (.reg [sq 38 (.load (some 6) (.t 3)),
sq 39 (.build [dS ⟨#[]⟩,dS ⟨#[]⟩,dS ⟨#[]⟩,dI 0,dI 0,dI 0,dI 0,dB false,dI 0,dN,dN,dN,dN,dI 0,dI 0,dS ⟨#[]⟩,dN,dN,dI 0,dI 0,dS ⟨#[]⟩,dN,dN] []),
su (.store 6 (.t 6) (.t 38)),
su (.store 23 (.t 7) (.t 39)),
sq 8 (.mv (kI 15))])
 .ret)
 .skip))
 (.seq (.reg [sq 41 (.load (some 6) (.t 3)),
sq 42 (.load (some 23) (.t 10)),
sq 43 (.call 58 [(.t 41),(kI 2),(.t 42)]),
sq 40 (.mv (.t 43)),
sq 44 (.ext (.t 40) 0),
sq 45 (.ext (.t 40) 1),
su (.store 6 (.t 3) (.t 44)),
su (.store 23 (.t 10) (.t 45))])
 (.seq (.regd [sq 46 (.load (some 6) (.t 3)),
sq 47 (.load (some 23) (.t 10)),
⟨none,none,.store 6 (.t 6) (.t 46),[0],(.lone [10])⟩,
⟨none,none,.store 23 (.t 7) (.t 47),[0,1,2],(.lone [])⟩,
sd 8 (.mv (kI 0)) [0,1,2,3]])
 .ret))))))))⟩
theorem F32_ok{x0 x1 x2 r}(h:F32 x0 x1 x2=some r):CallD Tryz.prog 32 [.agg [dI x0.Rev,dI x0.Floor,dI x0.NextUid,dM (x0.Base.map eObject),dM (x0.Objects.map eObject),dM (x0.History.map eChange)],.c (dS x1),.c (dI x2)] [] (tupV [.agg [dI ((r.1).Rev),dI ((r.1).Floor),dI ((r.1).NextUid),dM (((r.1).Base).map eObject),dM (((r.1).Objects).map eObject),dM (((r.1).History).map eChange)],.agg [dS ((r.2.1).Meta.Kind),dS ((r.2.1).Meta.Namespace),dS ((r.2.1).Meta.Name),dI ((r.2.1).Meta.Uid),dI ((r.2.1).Meta.Version),dI ((r.2.1).Meta.Generation),dI ((r.2.1).Meta.Created),dB ((r.2.1).Meta.Deleting),dI ((r.2.1).Meta.DeleteAt),dM (((r.2.1).Meta.Labels).map eLabel),dM (((r.2.1).Meta.Owners).map eOwner),dM (((r.2.1).Meta.Finalizers).map eS),dM (((r.2.1).Meta.Managers).map eManager),dI ((r.2.1).Spec.Kind),dI ((r.2.1).Spec.N),dS ((r.2.1).Spec.S),dM (((r.2.1).Spec.List_).map eTValue),dM (((r.2.1).Spec.Fields).map eTField),dI ((r.2.1).Status.Kind),dI ((r.2.1).Status.N),dS ((r.2.1).Status.S),dM (((r.2.1).Status.List_).map eTValue),dM (((r.2.1).Status.Fields).map eTField)],.c (dI r.2.2)]) []:=by
 rw[F32]at h
 refine zc a32 (by kernel_rfl) rfl (ww ?_)
 obtain⟨t1,ht1,h⟩:=bi h
 refine cN [] (F52_ok ht1) trivial (ww ?_)
 refine condSh h (fun c2 h=>?_) (fun c2 h=>?_)
 ·refine ww ?_
  cases h
  exact eF []
 refine ww ?_
 obtain⟨y3,hy3,h⟩:=bi h
 refine t_idxF (enc:=eObject) (xs:=x0.Objects) rfl rfl hy3 rfl (ww ?_)
 obtain⟨o4,ho,h⟩:=bi h
 refine cutS (fun s=>s=⟨[(3,.one (.c (.pt 0 0))),(6,.one (.c (.pt 1 0))),(7,.one (.c (.pt 2 0))),(10,.one (.c (.pt 3 0))),(32,.one (.c (dB o4)))],[some (.box [dI x0.Rev,dI x0.Floor,dI x0.NextUid,dM (x0.Base.map eObject),dM (x0.Objects.map eObject),dM (x0.History.map eChange)]),some (.box [dI 0,dI 0,dI 0,dN,dN,dN]),some (.box [dS ((⟨#[]⟩:ByteArray)),dS ((⟨#[]⟩:ByteArray)),dS ((⟨#[]⟩:ByteArray)),dI 0,dI 0,dI 0,dI 0,dB false,dI 0,dN,dN,dN,dN,dI 0,dI 0,dS ((⟨#[]⟩:ByteArray)),dN,dN,dI 0,dI 0,dS ((⟨#[]⟩:ByteArray)),dN,dN]),some (.box [dS y3.Meta.Kind,dS y3.Meta.Namespace,dS y3.Meta.Name,dI y3.Meta.Uid,dI y3.Meta.Version,dI y3.Meta.Generation,dI y3.Meta.Created,dB y3.Meta.Deleting,dI y3.Meta.DeleteAt,dM (y3.Meta.Labels.map eLabel),dM (y3.Meta.Owners.map eOwner),dM (y3.Meta.Finalizers.map eS),dM (y3.Meta.Managers.map eManager),dI y3.Spec.Kind,dI y3.Spec.N,dS y3.Spec.S,dM (y3.Spec.List_.map eTValue),dM (y3.Spec.Fields.map eTField),dI y3.Status.Kind,dI y3.Status.N,dS y3.Status.S,dM (y3.Status.List_.map eTValue),dM (y3.Status.Fields.map eTField)])]⟩) ?_ ?_
 ·have h:=ho
  clear ho
  refine ww ?_
  refine guardSh h (fun g5 h=>?_) (fun g5 h=>?_)
  ·refine ww ?_
   cases h
   exact eM [some 0,some 1,some 2,some 3] rfl
  refine ww ?_
  cases h
  exact eM [some 0,some 1,some 2,some 3] rfl
 rintro _ rfl
 clear ho
 refine ww ?_
 refine condBh h (fun c6 h=>?_) (fun c6 h=>?_)
 ·refine ww ?_
  cases h
  exact eF []
 refine ww ?_
 refine condSh h (fun c7 h=>?_) (fun c7 h=>?_)
 ·refine ww ?_
  cases h
  exact eF []
 refine ww ?_
 obtain⟨t8,ht8,h⟩:=bi h
 refine cN [] (F58_ok ht8) trivial (ww ?_)
 cases h
 exact eF []
end Go.Proofs.YtdkmamiedcanfaaGreat
