/- Each Go function as a function over typed data, and its walk. -/
import Derived.Test.YtondgcmdhkhkkaaGreatW0
import Derived.Test.YtondgcmdhkhkkaaGreatW1
import Derived.Test.YtondgcmdhkhkkaaGreatW3
import Derived.Test.YtondgcmdhkhkkaaGreatW5
import Derived.Test.YtondgcmdhkhkkaaGreatW9
import Derived.Test.YtondgcmdhkhkkaaGreatW10
import Derived.Test.YtondgcmdhkhkkaaGreatW11
import Derived.Test.YtondgcmdhkhkkaaGreatW12
import Derived.Test.YtondgcmdhkhkkaaGreatW13
namespace Go.Proofs.YtondgcmdhkhkkaaGreat
open Go Go.Fw Go.Shelf
set_option maxRecDepth 100000
set_option maxHeartbeats 4000000
set_option linter.unusedSimpArgs false
set_option linter.unusedVariables false
def F63(x0:TStore)(x1:Object)(x2:Int):Option (Int×Int×Int×(List Object)×(List Object)×(List Change)×Object×Int):=(F24 x1.Meta).bind fun t1=>(F91 x0.Objects t1).bind fun t2=>(((F92 x1).bind fun t4=>(if(nb t4)=true then some true else(if x2<0 then some true else some (decide (1000000000000<x2))))).bind fun o3=>(if o3=true then(F60 x0).bind fun t8=>some ((x0.Rev,x0.Floor,x0.NextUid,t8.1,t8.2.1,t8.2.2,(⟨(⟨(⟨#[]⟩:ByteArray),(⟨#[]⟩:ByteArray),(⟨#[]⟩:ByteArray),0,0,0,0,false,0,[],[],[],[]⟩:Meta),(⟨0,0,(⟨#[]⟩:ByteArray),[],[]⟩:TValue),(⟨0,0,(⟨#[]⟩:ByteArray),[],[]⟩:TValue)⟩:Object),1))else(if t2.2=true then(F60 x0).bind fun t10=>some ((x0.Rev,x0.Floor,x0.NextUid,t10.1,t10.2.1,t10.2.2,(⟨(⟨(⟨#[]⟩:ByteArray),(⟨#[]⟩:ByteArray),(⟨#[]⟩:ByteArray),0,0,0,0,false,0,[],[],[],[]⟩:Meta),(⟨0,0,(⟨#[]⟩:ByteArray),[],[]⟩:TValue),(⟨0,0,(⟨#[]⟩:ByteArray),[],[]⟩:TValue)⟩:Object),8))else(((if 500≤(x0.Objects.length:Int)then some true else(if 1000000000000000≤x0.Rev then some true else some (decide (1000000000000000≤x0.NextUid))))).bind fun o11=>(if o11=true then(F60 x0).bind fun t15=>some ((x0.Rev,x0.Floor,x0.NextUid,t15.1,t15.2.1,t15.2.2,(⟨(⟨(⟨#[]⟩:ByteArray),(⟨#[]⟩:ByteArray),(⟨#[]⟩:ByteArray),0,0,0,0,false,0,[],[],[],[]⟩:Meta),(⟨0,0,(⟨#[]⟩:ByteArray),[],[]⟩:TValue),(⟨0,0,(⟨#[]⟩:ByteArray),[],[]⟩:TValue)⟩:Object),15))else(F83 x1).bind fun t16=>((some (())).bind fun o17=>(F93 x0 1 ((⟨(⟨x1.Meta.Kind,x1.Meta.Namespace,x1.Meta.Name,x0.NextUid,(IntKind.i64.wrap (x0.Rev+1)),1,x2,false,0,t16.1,t16.2.1,t16.2.2.1,t16.2.2.2.1⟩:Meta),(⟨t16.2.2.2.2.1,t16.2.2.2.2.2.1,t16.2.2.2.2.2.2.1,t16.2.2.2.2.2.2.2.1,t16.2.2.2.2.2.2.2.2.1⟩:TValue),(⟨t16.2.2.2.2.2.2.2.2.2.1,t16.2.2.2.2.2.2.2.2.2.2.1,t16.2.2.2.2.2.2.2.2.2.2.2.1,t16.2.2.2.2.2.2.2.2.2.2.2.2.1,t16.2.2.2.2.2.2.2.2.2.2.2.2.2⟩:TValue)⟩:Object))).bind fun t18=>some ((t18.1,t18.2.1,(IntKind.i64.wrap (x0.NextUid+1)),t18.2.2.1,t18.2.2.2.1,t18.2.2.2.2,(⟨(⟨x1.Meta.Kind,x1.Meta.Namespace,x1.Meta.Name,x0.NextUid,(IntKind.i64.wrap (x0.Rev+1)),1,x2,false,0,t16.1,t16.2.1,t16.2.2.1,t16.2.2.2.1⟩:Meta),(⟨t16.2.2.2.2.1,t16.2.2.2.2.2.1,t16.2.2.2.2.2.2.1,t16.2.2.2.2.2.2.2.1,t16.2.2.2.2.2.2.2.2.1⟩:TValue),(⟨t16.2.2.2.2.2.2.2.2.2.1,t16.2.2.2.2.2.2.2.2.2.2.1,t16.2.2.2.2.2.2.2.2.2.2.2.1,t16.2.2.2.2.2.2.2.2.2.2.2.2.1,t16.2.2.2.2.2.2.2.2.2.2.2.2.2⟩:TValue)⟩:Object),0))))))))
def a63:AFn:=⟨97,[(.cell 6 (some 6)),(.cell 7 (some 23)),(.tmp 8)],
 (.seq (.reg [sq 3 (.box (.t 0)),
sq 4 (.box (.t 1)),
sq 6 (.zbox [dI 0,dI 0,dI 0,dN,dN,dN]),
sq 7 (.zbox [dS ⟨#[]⟩,dS ⟨#[]⟩,dS ⟨#[]⟩,dI 0,dI 0,dI 0,dI 0,dB false,dI 0,dN,dN,dN,dN,dI 0,dI 0,dS ⟨#[]⟩,dN,dN,dI 0,dI 0,dS ⟨#[]⟩,dN,dN]),
sq 8 (.mv (kI 0))])
 (.seq (.regd [sq 15 (.fieldA 4 (.t 3)),
sd 16 (.load none (.t 15)) [0],
sq 17 (.fieldA 0 (.t 4)),
sd 18 (.load (some 13) (.t 17)) [2],
zl 19 (.call 24 [(.t 18)]) [2,3] [3,15],
zl 20 (.call 91 [(.t 16),(.t 19)]) [0,1,2,3,4] [],
sd 14 (.mv (.t 20)) [0,1,2,3,4,5],
sd 21 (.ext (.t 14) 0) [0,1,2,3,4,5,6],
sd 22 (.ext (.t 14) 1) [0,1,2,3,4,5,6],
sd 9 (.mv (.t 21)) [0,1,2,3,4,5,6,7],
sd 10 (.mv (.t 22)) [0,1,2,3,4,5,6,7,8,9]])
 (.seq (.block 0 (.seq (.sem (.reg [sq 24 (.load (some 23) (.t 4)),
sq 25 (.call 92 [(.t 24)]),
sq 26 (.not (.t 25)),
sq 27 (.mv (.t 26)),
zg 28 27 false (.mv (.t 2)),
zg 29 27 false (.bin .lss (.t 28) (kI 0)),
sq 30 (.pick (.t 27) (kB true) (.t 29)),
sq 31 (.mv (.t 30)),
zg 32 31 false (.mv (.t 2)),
zg 33 31 false (.bin .gtr (.t 32) (kI 1000000000000)),
sq 34 (.pick (.t 31) (kB true) (.t 33)),
sq 23 (.mv (.t 34))]))
 (.cond (.t 23)
 (.seq (.reg [sq 35 (.load (some 6) (.t 3)),
sq 36 (.call 60 [(.t 35)]),
sq 37 (.build [dS ⟨#[]⟩,dS ⟨#[]⟩,dS ⟨#[]⟩,dI 0,dI 0,dI 0,dI 0,dB false,dI 0,dN,dN,dN,dN,dI 0,dI 0,dS ⟨#[]⟩,dN,dN,dI 0,dI 0,dS ⟨#[]⟩,dN,dN] []),
su (.store 6 (.t 6) (.t 36)),
su (.store 23 (.t 7) (.t 37)),
sq 8 (.mv (kI 1))])
 .ret)
 (.seq (.reg [sq 39 (.mv (.t 10)),
sq 38 (.mv (.t 39))])
 (.cond (.t 38)
 (.seq (.reg [sq 40 (.load (some 6) (.t 3)),
sq 41 (.call 60 [(.t 40)]),
sq 42 (.build [dS ⟨#[]⟩,dS ⟨#[]⟩,dS ⟨#[]⟩,dI 0,dI 0,dI 0,dI 0,dB false,dI 0,dN,dN,dN,dN,dI 0,dI 0,dS ⟨#[]⟩,dN,dN,dI 0,dI 0,dS ⟨#[]⟩,dN,dN] []),
su (.store 6 (.t 6) (.t 41)),
su (.store 23 (.t 7) (.t 42)),
sq 8 (.mv (kI 8))])
 .ret)
 (.seq (.sem (.reg [sq 44 (.fieldA 4 (.t 3)),
sq 45 (.load none (.t 44)),
sq 46 (.len (.t 45)),
sq 47 (.bin .geq (.t 46) (kI 500)),
sq 48 (.mv (.t 47)),
zg 49 48 false (.fieldA 0 (.t 3)),
zg 50 48 false (.load none (.t 49)),
zg 51 48 false (.bin .geq (.t 50) (kI 1000000000000000)),
sq 52 (.pick (.t 48) (kB true) (.t 51)),
sq 53 (.mv (.t 52)),
zg 54 53 false (.fieldA 2 (.t 3)),
zg 55 53 false (.load none (.t 54)),
zg 56 53 false (.bin .geq (.t 55) (kI 1000000000000000)),
sq 57 (.pick (.t 53) (kB true) (.t 56)),
sq 43 (.mv (.t 57))]))
 (.cond (.t 43)
 (.seq (.reg [sq 58 (.load (some 6) (.t 3)),
sq 59 (.call 60 [(.t 58)]),
sq 60 (.build [dS ⟨#[]⟩,dS ⟨#[]⟩,dS ⟨#[]⟩,dI 0,dI 0,dI 0,dI 0,dB false,dI 0,dN,dN,dN,dN,dI 0,dI 0,dS ⟨#[]⟩,dN,dN,dI 0,dI 0,dS ⟨#[]⟩,dN,dN] []),
su (.store 6 (.t 6) (.t 59)),
su (.store 23 (.t 7) (.t 60)),
sq 8 (.mv (kI 15))])
 .ret)
 .skip)))))))
 (.seq (.reg [sq 61 (.load (some 23) (.t 4)),
sq 62 (.call 83 [(.t 61)]),
sq 11 (.zbox [dS ⟨#[]⟩,dS ⟨#[]⟩,dS ⟨#[]⟩,dI 0,dI 0,dI 0,dI 0,dB false,dI 0,dN,dN,dN,dN,dI 0,dI 0,dS ⟨#[]⟩,dN,dN,dI 0,dI 0,dS ⟨#[]⟩,dN,dN]),
su (.store 23 (.t 11) (.t 62))])
 (.seq (.reg [sq 63 (.fieldA 0 (.t 11)),
sq 12 (.mv (.t 63))])
 (.seq (.sem (.regd [sq 64 (.mv (.t 12)),
sq 65 (.mv (.t 12)),
sq 66 (.mv (.t 12)),
sq 67 (.mv (.t 12)),
sq 68 (.mv (.t 12)),
sq 69 (.mv (.t 12)),
sq 70 (.fieldA 2 (.t 3)),
sd 71 (.load none (.t 70)) [6],
sq 72 (.fieldA 0 (.t 3)),
sd 73 (.load none (.t 72)) [8],
sd 74 (.bin .add (.t 73) (kI 1)) [8,9],
sq 75 (.mv (.t 2)),
sd 76 (.fieldA 0 (.t 64)) [0,6,7],
sd 77 (.fieldA 3 (.t 76)) [0,6,7,12],
⟨none,none,.store 1 (.t 77) (.t 71),[0,6,7,12,13],(.lone [3,72])⟩,
sd 78 (.fieldA 0 (.t 65)) [0,1,6,7,8,9,10,12,13,14],
sd 79 (.fieldA 4 (.t 78)) [0,1,6,7,8,9,10,12,13,14,15],
⟨none,none,.store 1 (.t 79) (.t 74),[0,1,6,7,8,9,10,12,13,14,15,16],(.lone [])⟩,
sd 80 (.fieldA 0 (.t 66)) [0,1,2,6,7,8,9,10,12,13,14,15,16,17],
sd 81 (.fieldA 5 (.t 80)) [0,1,2,6,7,8,9,10,12,13,14,15,16,17,18],
⟨none,none,.store 1 (.t 81) (kI 1),[0,1,2,6,7,8,9,10,12,13,14,15,16,17,18,19],(.lone [])⟩,
sd 82 (.fieldA 0 (.t 67)) [0,1,2,3,6,7,8,9,10,11,12,13,14,15,16,17,18,19,20],
sd 83 (.fieldA 6 (.t 82)) [0,1,2,3,6,7,8,9,10,11,12,13,14,15,16,17,18,19,20,21],
⟨none,none,.store 1 (.t 83) (.t 75),[0,1,2,3,6,7,8,9,10,11,12,13,14,15,16,17,18,19,20,21,22],(.lone [])⟩,
sd 84 (.fieldA 0 (.t 68)) [0,1,2,3,4,6,7,8,9,10,11,12,13,14,15,16,17,18,19,20,21,22,23],
sd 85 (.fieldA 7 (.t 84)) [0,1,2,3,4,6,7,8,9,10,11,12,13,14,15,16,17,18,19,20,21,22,23,24],
⟨none,none,.store 1 (.t 85) (kB false),[0,1,2,3,4,6,7,8,9,10,11,12,13,14,15,16,17,18,19,20,21,22,23,24,25],(.lone [])⟩,
sd 86 (.fieldA 0 (.t 69)) [0,1,2,3,4,5,6,7,8,9,10,11,12,13,14,15,16,17,18,19,20,21,22,23,24,25,26],
sd 87 (.fieldA 8 (.t 86)) [0,1,2,3,4,5,6,7,8,9,10,11,12,13,14,15,16,17,18,19,20,21,22,23,24,25,26,27],
⟨none,none,.store 1 (.t 87) (kI 0),[0,1,2,3,4,5,6,7,8,9,10,11,12,13,14,15,16,17,18,19,20,21,22,23,24,25,26,27,28],(.lone [])⟩]))
 (.seq (.reg [sq 88 (.load (some 6) (.t 3)),
sq 89 (.load (some 23) (.t 11)),
sq 90 (.call 93 [(.t 88),(kI 1),(.t 89)]),
sq 13 (.zbox [dI 0,dI 0,dI 0,dN,dN,dN]),
su (.store 6 (.t 13) (.t 90))])
 (.seq (.reg [sq 91 (.fieldA 2 (.t 13)),
sq 92 (.load none (.t 91)),
sq 93 (.bin .add (.t 92) (kI 1)),
sq 94 (.fieldA 2 (.t 13)),
⟨none,none,.store 1 (.t 94) (.t 93),[],(.lone [13,91,13])⟩])
 (.seq (.regd [sq 95 (.load (some 6) (.t 13)),
sq 96 (.load (some 23) (.t 11)),
⟨none,none,.store 6 (.t 6) (.t 95),[0],(.lone [11])⟩,
⟨none,none,.store 23 (.t 7) (.t 96),[0,1,2],(.lone [])⟩,
sd 8 (.mv (kI 0)) [0,1,2,3]])
 .ret)))))))))⟩
theorem a63_ok:afn Tryz.prog 63=some a63.er:=by kernel_rfl
theorem F63_ok{x0 x1 x2 r}(h:F63 x0 x1 x2=some r):CallD Tryz.prog 63 [.agg [dI x0.Rev,dI x0.Floor,dI x0.NextUid,dM (x0.Base.map eObject),dM (x0.Objects.map eObject),dM (x0.History.map eChange)],.agg [dS x1.Meta.Kind,dS x1.Meta.Namespace,dS x1.Meta.Name,dI x1.Meta.Uid,dI x1.Meta.Version,dI x1.Meta.Generation,dI x1.Meta.Created,dB x1.Meta.Deleting,dI x1.Meta.DeleteAt,dM (x1.Meta.Labels.map eLabel),dM (x1.Meta.Owners.map eOwner),dM (x1.Meta.Finalizers.map eS),dM (x1.Meta.Managers.map eManager),dI x1.Spec.Kind,dI x1.Spec.N,dS x1.Spec.S,dM (x1.Spec.List_.map eTValue),dM (x1.Spec.Fields.map eTField),dI x1.Status.Kind,dI x1.Status.N,dS x1.Status.S,dM (x1.Status.List_.map eTValue),dM (x1.Status.Fields.map eTField)],.c (dI x2)] [] (tupV [.agg [dI r.1,dI r.2.1,dI r.2.2.1,.own 0 0 0 (r.2.2.2.1.length) none,.own 1 0 0 (r.2.2.2.2.1.length) none,.own 2 0 0 (r.2.2.2.2.2.1.length) none],.agg [dS ((r.2.2.2.2.2.2.1).Meta.Kind),dS ((r.2.2.2.2.2.2.1).Meta.Namespace),dS ((r.2.2.2.2.2.2.1).Meta.Name),dI ((r.2.2.2.2.2.2.1).Meta.Uid),dI ((r.2.2.2.2.2.2.1).Meta.Version),dI ((r.2.2.2.2.2.2.1).Meta.Generation),dI ((r.2.2.2.2.2.2.1).Meta.Created),dB ((r.2.2.2.2.2.2.1).Meta.Deleting),dI ((r.2.2.2.2.2.2.1).Meta.DeleteAt),dM (((r.2.2.2.2.2.2.1).Meta.Labels).map eLabel),dM (((r.2.2.2.2.2.2.1).Meta.Owners).map eOwner),dM (((r.2.2.2.2.2.2.1).Meta.Finalizers).map eS),dM (((r.2.2.2.2.2.2.1).Meta.Managers).map eManager),dI ((r.2.2.2.2.2.2.1).Spec.Kind),dI ((r.2.2.2.2.2.2.1).Spec.N),dS ((r.2.2.2.2.2.2.1).Spec.S),dM (((r.2.2.2.2.2.2.1).Spec.List_).map eTValue),dM (((r.2.2.2.2.2.2.1).Spec.Fields).map eTField),dI ((r.2.2.2.2.2.2.1).Status.Kind),dI ((r.2.2.2.2.2.2.1).Status.N),dS ((r.2.2.2.2.2.2.1).Status.S),dM (((r.2.2.2.2.2.2.1).Status.List_).map eTValue),dM (((r.2.2.2.2.2.2.1).Status.Fields).map eTField)],.c (dI r.2.2.2.2.2.2.2)]) [some (.arr 0 23 (r.2.2.2.1.map eObject)),some (.arr 0 23 (r.2.2.2.2.1.map eObject)),some (.arr 0 25 (r.2.2.2.2.2.1.map eChange))]:=by
 refine callS a63_ok (by simp[a63]) ?_
 rw[F63]at h
 simp only[a63,VW.down,Nat.reduceEqDiff,reduceCtorEq,Nat.reduceAdd,Nat.reduceLeDiff,Nat.reduceLT,Nat.reduceBEq,Nat.reduceSub,EE.down]
 obtain⟨t1,ht1,h⟩:=bi h
 refine cN [] (F24_ok ht1) trivial (ww ?_)
 obtain⟨t2,ht2,h⟩:=bi h
 refine cN [] (F91_ok ht2) trivial (ww ?_)
 obtain⟨o3,ho,h⟩:=bi h
 refine cutS (fun s=>s=⟨[(2,.one (.c (dI x2))),(3,.one (.c (.pt 0 0))),(4,.one (.c (.pt 1 0))),(6,.one (.c (.pt 2 0))),(7,.one (.c (.pt 3 0))),(10,.one (.c (dB t2.2))),(23,.one (.c (dB o3)))],[some (.box [dI x0.Rev,dI x0.Floor,dI x0.NextUid,dM (x0.Base.map eObject),dM (x0.Objects.map eObject),dM (x0.History.map eChange)]),some (.box [dS x1.Meta.Kind,dS x1.Meta.Namespace,dS x1.Meta.Name,dI x1.Meta.Uid,dI x1.Meta.Version,dI x1.Meta.Generation,dI x1.Meta.Created,dB x1.Meta.Deleting,dI x1.Meta.DeleteAt,dM (x1.Meta.Labels.map eLabel),dM (x1.Meta.Owners.map eOwner),dM (x1.Meta.Finalizers.map eS),dM (x1.Meta.Managers.map eManager),dI x1.Spec.Kind,dI x1.Spec.N,dS x1.Spec.S,dM (x1.Spec.List_.map eTValue),dM (x1.Spec.Fields.map eTField),dI x1.Status.Kind,dI x1.Status.N,dS x1.Status.S,dM (x1.Status.List_.map eTValue),dM (x1.Status.Fields.map eTField)]),some (.box [dI 0,dI 0,dI 0,dN,dN,dN]),some (.box [dS ((⟨#[]⟩:ByteArray)),dS ((⟨#[]⟩:ByteArray)),dS ((⟨#[]⟩:ByteArray)),dI 0,dI 0,dI 0,dI 0,dB false,dI 0,dN,dN,dN,dN,dI 0,dI 0,dS ((⟨#[]⟩:ByteArray)),dN,dN,dI 0,dI 0,dS ((⟨#[]⟩:ByteArray)),dN,dN])]⟩) ?_ ?_
 ·have h:=ho
  clear ho
  refine ww ?_
  obtain⟨t4,ht4,h⟩:=bi h
  refine cN [] (F92_ok ht4) trivial (ww ?_)
  refine guardSBh h (fun g5 h=>?_) (fun g5 h=>?_)
  ·refine ww ?_
   cases h
   exact eM [some 0,some 1,some 2,some 3] rfl
  refine ww ?_
  refine guardSh h (fun g6 h=>?_) (fun g6 h=>?_)
  ·refine ww ?_
   cases h
   exact eM [some 0,some 1,some 2,some 3] rfl
  refine ww ?_
  cases h
  exact eM [some 0,some 1,some 2,some 3] rfl
 rintro _ rfl
 clear ho
 refine ww ?_
 refine condBh h (fun c7 h=>?_) (fun c7 h=>?_)
 ·refine ww ?_
  obtain⟨t8,ht8,h⟩:=bi h
  refine cN [] (F60_ok ht8) trivial (ww ?_)
  cases h
  exact eF [some 4,some 5,some 6]
 refine ww ?_
 refine condBh h (fun c9 h=>?_) (fun c9 h=>?_)
 ·refine ww ?_
  obtain⟨t10,ht10,h⟩:=bi h
  refine cN [] (F60_ok ht10) trivial (ww ?_)
  cases h
  exact eF [some 4,some 5,some 6]
 refine ww ?_
 obtain⟨o11,ho,h⟩:=bi h
 refine cutS (fun s=>s=⟨[(2,.one (.c (dI x2))),(3,.one (.c (.pt 0 0))),(4,.one (.c (.pt 1 0))),(6,.one (.c (.pt 2 0))),(7,.one (.c (.pt 3 0))),(43,.one (.c (dB o11)))],[some (.box [dI x0.Rev,dI x0.Floor,dI x0.NextUid,dM (x0.Base.map eObject),dM (x0.Objects.map eObject),dM (x0.History.map eChange)]),some (.box [dS x1.Meta.Kind,dS x1.Meta.Namespace,dS x1.Meta.Name,dI x1.Meta.Uid,dI x1.Meta.Version,dI x1.Meta.Generation,dI x1.Meta.Created,dB x1.Meta.Deleting,dI x1.Meta.DeleteAt,dM (x1.Meta.Labels.map eLabel),dM (x1.Meta.Owners.map eOwner),dM (x1.Meta.Finalizers.map eS),dM (x1.Meta.Managers.map eManager),dI x1.Spec.Kind,dI x1.Spec.N,dS x1.Spec.S,dM (x1.Spec.List_.map eTValue),dM (x1.Spec.Fields.map eTField),dI x1.Status.Kind,dI x1.Status.N,dS x1.Status.S,dM (x1.Status.List_.map eTValue),dM (x1.Status.Fields.map eTField)]),some (.box [dI 0,dI 0,dI 0,dN,dN,dN]),some (.box [dS ((⟨#[]⟩:ByteArray)),dS ((⟨#[]⟩:ByteArray)),dS ((⟨#[]⟩:ByteArray)),dI 0,dI 0,dI 0,dI 0,dB false,dI 0,dN,dN,dN,dN,dI 0,dI 0,dS ((⟨#[]⟩:ByteArray)),dN,dN,dI 0,dI 0,dS ((⟨#[]⟩:ByteArray)),dN,dN])]⟩) ?_ ?_
 ·have h:=ho
  clear ho
  refine ww ?_
  refine guardSh h (fun g12 h=>?_) (fun g12 h=>?_)
  ·refine ww ?_
   cases h
   exact eM [some 0,some 1,some 2,some 3] rfl
  refine ww ?_
  refine guardSh h (fun g13 h=>?_) (fun g13 h=>?_)
  ·refine ww ?_
   cases h
   exact eM [some 0,some 1,some 2,some 3] rfl
  refine ww ?_
  cases h
  exact eM [some 0,some 1,some 2,some 3] rfl
 rintro _ rfl
 clear ho
 refine ww ?_
 refine condBh h (fun c14 h=>?_) (fun c14 h=>?_)
 ·refine ww ?_
  obtain⟨t15,ht15,h⟩:=bi h
  refine cN [] (F60_ok ht15) trivial (ww ?_)
  cases h
  exact eF [some 4,some 5,some 6]
 refine ww ?_
 obtain⟨t16,ht16,h⟩:=bi h
 refine cN [] (F83_ok ht16) trivial (ww ?_)
 obtain⟨o17,ho,h⟩:=bi h
 refine cutS (fun s=>s=⟨[(3,.one (.c (.pt 0 0))),(6,.one (.c (.pt 1 0))),(7,.one (.c (.pt 2 0))),(11,.one (.c (.pt 3 0)))],[some (.box [dI x0.Rev,dI x0.Floor,dI x0.NextUid,dM (x0.Base.map eObject),dM (x0.Objects.map eObject),dM (x0.History.map eChange)]),some (.box [dI 0,dI 0,dI 0,dN,dN,dN]),some (.box [dS ((⟨#[]⟩:ByteArray)),dS ((⟨#[]⟩:ByteArray)),dS ((⟨#[]⟩:ByteArray)),dI 0,dI 0,dI 0,dI 0,dB false,dI 0,dN,dN,dN,dN,dI 0,dI 0,dS ((⟨#[]⟩:ByteArray)),dN,dN,dI 0,dI 0,dS ((⟨#[]⟩:ByteArray)),dN,dN]),some (.box [dS x1.Meta.Kind,dS x1.Meta.Namespace,dS x1.Meta.Name,dI x0.NextUid,dI ((IntKind.i64.wrap (x0.Rev+1))),dI 1,dI x2,dB false,dI 0,dM (t16.1.map eLabel),dM (t16.2.1.map eOwner),dM (t16.2.2.1.map eS),dM (t16.2.2.2.1.map eManager),dI t16.2.2.2.2.1,dI t16.2.2.2.2.2.1,dS t16.2.2.2.2.2.2.1,dM (t16.2.2.2.2.2.2.2.1.map eTValue),dM (t16.2.2.2.2.2.2.2.2.1.map eTField),dI t16.2.2.2.2.2.2.2.2.2.1,dI t16.2.2.2.2.2.2.2.2.2.2.1,dS t16.2.2.2.2.2.2.2.2.2.2.2.1,dM (t16.2.2.2.2.2.2.2.2.2.2.2.2.1.map eTValue),dM (t16.2.2.2.2.2.2.2.2.2.2.2.2.2.map eTField)])]⟩) ?_ ?_
 ·have h:=ho
  clear ho
  refine ww ?_
  cases h
  exact eM [some 0,some 2,some 3,some 8] rfl
 rintro _ rfl
 clear ho
 refine ww ?_
 obtain⟨t18,ht18,h⟩:=bi h
 refine cN [] (F93_ok ht18) trivial (ww ?_)
 cases h
 exact eF [some 4,some 5,some 6]
def F65(x0:TStore)(x1:Object):Option (Int×Int×(List Object)×(List Object)×(List Change)×ByteArray×ByteArray×ByteArray×Int×Int×Int×Int×Bool×Int×(List Label)×(List Owner)×(List ByteArray)×(List Manager)×Int×Int×ByteArray×((List TValue))×((List TField))×Int×Int×ByteArray×((List TValue))×((List TField))×Int):=(F92 x1).bind fun t1=>(if(nb t1)=true then(F60 x0).bind fun t3=>some ((x0.Rev,x0.Floor,t3.1,t3.2.1,t3.2.2,(⟨#[]⟩:ByteArray),(⟨#[]⟩:ByteArray),(⟨#[]⟩:ByteArray),0,0,0,0,false,0,[],[],[],[],0,0,(⟨#[]⟩:ByteArray),[],[],0,0,(⟨#[]⟩:ByteArray),[],[],1))else(F24 x1.Meta).bind fun t4=>(F94 x0 t4).bind fun t5=>(if(nb t5.2.2.2.2.2.2.2.2.2.2.2.2.2.2.2.2.2.2.2.2.2.2.2)=true then(F60 x0).bind fun t7=>some ((x0.Rev,x0.Floor,t7.1,t7.2.1,t7.2.2,(⟨#[]⟩:ByteArray),(⟨#[]⟩:ByteArray),(⟨#[]⟩:ByteArray),0,0,0,0,false,0,[],[],[],[],0,0,(⟨#[]⟩:ByteArray),[],[],0,0,(⟨#[]⟩:ByteArray),[],[],7))else(((if¬(x1.Meta.Version=0)then(if¬(x1.Meta.Version=t5.2.2.2.2.1)then some true else(if¬(x1.Meta.Uid=0)then some (decide (¬(x1.Meta.Uid=t5.2.2.2.1)))else some false))else(if¬(x1.Meta.Uid=0)then some (decide (¬(x1.Meta.Uid=t5.2.2.2.1)))else some false))).bind fun o8=>(if o8=true then(F60 x0).bind fun t14=>some ((x0.Rev,x0.Floor,t14.1,t14.2.1,t14.2.2,(⟨#[]⟩:ByteArray),(⟨#[]⟩:ByteArray),(⟨#[]⟩:ByteArray),0,0,0,0,false,0,[],[],[],[],0,0,(⟨#[]⟩:ByteArray),[],[],0,0,(⟨#[]⟩:ByteArray),[],[],9))else(F83 x1).bind fun t15=>(((F52 ((⟨t15.2.2.2.2.1,t15.2.2.2.2.2.1,t15.2.2.2.2.2.2.1,t15.2.2.2.2.2.2.2.1,t15.2.2.2.2.2.2.2.2.1⟩:TValue)) ((⟨t5.2.2.2.2.2.2.2.2.2.2.2.2.2.1,t5.2.2.2.2.2.2.2.2.2.2.2.2.2.2.1,t5.2.2.2.2.2.2.2.2.2.2.2.2.2.2.2.1,t5.2.2.2.2.2.2.2.2.2.2.2.2.2.2.2.2.1,t5.2.2.2.2.2.2.2.2.2.2.2.2.2.2.2.2.2.1⟩:TValue))).bind fun t17=>(if(nb t17)=true then some ((IntKind.i64.wrap (t5.2.2.2.2.2.1+1)))else some t5.2.2.2.2.2.1)).bind fun o16=>(F20 ((⟨(⟨x1.Meta.Kind,x1.Meta.Namespace,x1.Meta.Name,t5.2.2.2.1,t5.2.2.2.2.1,o16,t5.2.2.2.2.2.2.1,x1.Meta.Deleting,x1.Meta.DeleteAt,t15.1,t15.2.1,t15.2.2.1,t15.2.2.2.1⟩:Meta),(⟨t15.2.2.2.2.1,t15.2.2.2.2.2.1,t15.2.2.2.2.2.2.1,t15.2.2.2.2.2.2.2.1,t15.2.2.2.2.2.2.2.2.1⟩:TValue),(⟨t15.2.2.2.2.2.2.2.2.2.1,t15.2.2.2.2.2.2.2.2.2.2.1,t15.2.2.2.2.2.2.2.2.2.2.2.1,t15.2.2.2.2.2.2.2.2.2.2.2.2.1,t15.2.2.2.2.2.2.2.2.2.2.2.2.2⟩:TValue)⟩:Object)) ((⟨(⟨t5.1,t5.2.1,t5.2.2.1,t5.2.2.2.1,t5.2.2.2.2.1,t5.2.2.2.2.2.1,t5.2.2.2.2.2.2.1,t5.2.2.2.2.2.2.2.1,t5.2.2.2.2.2.2.2.2.1,t5.2.2.2.2.2.2.2.2.2.1,t5.2.2.2.2.2.2.2.2.2.2.1,t5.2.2.2.2.2.2.2.2.2.2.2.1,t5.2.2.2.2.2.2.2.2.2.2.2.2.1⟩:Meta),(⟨t5.2.2.2.2.2.2.2.2.2.2.2.2.2.1,t5.2.2.2.2.2.2.2.2.2.2.2.2.2.2.1,t5.2.2.2.2.2.2.2.2.2.2.2.2.2.2.2.1,t5.2.2.2.2.2.2.2.2.2.2.2.2.2.2.2.2.1,t5.2.2.2.2.2.2.2.2.2.2.2.2.2.2.2.2.2.1⟩:TValue),(⟨t5.2.2.2.2.2.2.2.2.2.2.2.2.2.2.2.2.2.2.1,t5.2.2.2.2.2.2.2.2.2.2.2.2.2.2.2.2.2.2.2.1,t5.2.2.2.2.2.2.2.2.2.2.2.2.2.2.2.2.2.2.2.2.1,t5.2.2.2.2.2.2.2.2.2.2.2.2.2.2.2.2.2.2.2.2.2.1,t5.2.2.2.2.2.2.2.2.2.2.2.2.2.2.2.2.2.2.2.2.2.2.1⟩:TValue)⟩:Object))).bind fun t19=>(if t19=true then(F60 x0).bind fun t21=>some ((x0.Rev,x0.Floor,t21.1,t21.2.1,t21.2.2,t5.1,t5.2.1,t5.2.2.1,t5.2.2.2.1,t5.2.2.2.2.1,t5.2.2.2.2.2.1,t5.2.2.2.2.2.2.1,t5.2.2.2.2.2.2.2.1,t5.2.2.2.2.2.2.2.2.1,t5.2.2.2.2.2.2.2.2.2.1,t5.2.2.2.2.2.2.2.2.2.2.1,t5.2.2.2.2.2.2.2.2.2.2.2.1,t5.2.2.2.2.2.2.2.2.2.2.2.2.1,t5.2.2.2.2.2.2.2.2.2.2.2.2.2.1,t5.2.2.2.2.2.2.2.2.2.2.2.2.2.2.1,t5.2.2.2.2.2.2.2.2.2.2.2.2.2.2.2.1,t5.2.2.2.2.2.2.2.2.2.2.2.2.2.2.2.2.1,t5.2.2.2.2.2.2.2.2.2.2.2.2.2.2.2.2.2.1,t5.2.2.2.2.2.2.2.2.2.2.2.2.2.2.2.2.2.2.1,t5.2.2.2.2.2.2.2.2.2.2.2.2.2.2.2.2.2.2.2.1,t5.2.2.2.2.2.2.2.2.2.2.2.2.2.2.2.2.2.2.2.2.1,t5.2.2.2.2.2.2.2.2.2.2.2.2.2.2.2.2.2.2.2.2.2.1,t5.2.2.2.2.2.2.2.2.2.2.2.2.2.2.2.2.2.2.2.2.2.2.1,0))else(if 1000000000000000≤x0.Rev then(F60 x0).bind fun t23=>some ((x0.Rev,x0.Floor,t23.1,t23.2.1,t23.2.2,(⟨#[]⟩:ByteArray),(⟨#[]⟩:ByteArray),(⟨#[]⟩:ByteArray),0,0,0,0,false,0,[],[],[],[],0,0,(⟨#[]⟩:ByteArray),[],[],0,0,(⟨#[]⟩:ByteArray),[],[],15))else((some (())).bind fun o24=>(F93 x0 1 ((⟨(⟨x1.Meta.Kind,x1.Meta.Namespace,x1.Meta.Name,t5.2.2.2.1,(IntKind.i64.wrap (x0.Rev+1)),o16,t5.2.2.2.2.2.2.1,x1.Meta.Deleting,x1.Meta.DeleteAt,t15.1,t15.2.1,t15.2.2.1,t15.2.2.2.1⟩:Meta),(⟨t15.2.2.2.2.1,t15.2.2.2.2.2.1,t15.2.2.2.2.2.2.1,t15.2.2.2.2.2.2.2.1,t15.2.2.2.2.2.2.2.2.1⟩:TValue),(⟨t15.2.2.2.2.2.2.2.2.2.1,t15.2.2.2.2.2.2.2.2.2.2.1,t15.2.2.2.2.2.2.2.2.2.2.2.1,t15.2.2.2.2.2.2.2.2.2.2.2.2.1,t15.2.2.2.2.2.2.2.2.2.2.2.2.2⟩:TValue)⟩:Object))).bind fun t25=>some ((t25.1,t25.2.1,t25.2.2.1,t25.2.2.2.1,t25.2.2.2.2,x1.Meta.Kind,x1.Meta.Namespace,x1.Meta.Name,t5.2.2.2.1,(IntKind.i64.wrap (x0.Rev+1)),o16,t5.2.2.2.2.2.2.1,x1.Meta.Deleting,x1.Meta.DeleteAt,t15.1,t15.2.1,t15.2.2.1,t15.2.2.2.1,t15.2.2.2.2.1,t15.2.2.2.2.2.1,t15.2.2.2.2.2.2.1,t15.2.2.2.2.2.2.2.1,t15.2.2.2.2.2.2.2.2.1,t15.2.2.2.2.2.2.2.2.2.1,t15.2.2.2.2.2.2.2.2.2.2.1,t15.2.2.2.2.2.2.2.2.2.2.2.1,t15.2.2.2.2.2.2.2.2.2.2.2.2.1,t15.2.2.2.2.2.2.2.2.2.2.2.2.2,0))))))))))
def a65:AFn:=⟨117,[(.cell 4 (some 6)),(.cell 5 (some 23)),(.tmp 6)],
 (.seq (.reg [sq 2 (.box (.t 0)),
sq 3 (.box (.t 1)),
sq 4 (.zbox [dI 0,dI 0,dI 0,dN,dN,dN]),
sq 5 (.zbox [dS ⟨#[]⟩,dS ⟨#[]⟩,dS ⟨#[]⟩,dI 0,dI 0,dI 0,dI 0,dB false,dI 0,dN,dN,dN,dN,dI 0,dI 0,dS ⟨#[]⟩,dN,dN,dI 0,dI 0,dS ⟨#[]⟩,dN,dN]),
sq 6 (.mv (kI 0))])
 (.seq (.seq (.reg [sq 10 (.load (some 23) (.t 3)),
sq 11 (.call 92 [(.t 10)]),
sq 12 (.not (.t 11))])
 (.cond (.t 12)
 (.seq (.reg [sq 13 (.load (some 6) (.t 2)),
sq 14 (.call 60 [(.t 13)]),
sq 15 (.build [dS ⟨#[]⟩,dS ⟨#[]⟩,dS ⟨#[]⟩,dI 0,dI 0,dI 0,dI 0,dB false,dI 0,dN,dN,dN,dN,dI 0,dI 0,dS ⟨#[]⟩,dN,dN,dI 0,dI 0,dS ⟨#[]⟩,dN,dN] []),
su (.store 6 (.t 4) (.t 14)),
su (.store 23 (.t 5) (.t 15)),
sq 6 (.mv (kI 1))])
 .ret)
 .skip))
 (.seq (.regd [sq 17 (.load (some 6) (.t 2)),
sq 18 (.fieldA 0 (.t 3)),
sd 19 (.load (some 13) (.t 18)) [1],
zn 20 (.call 24 [(.t 19)]) [1,2] [1,2],
zn 21 (.call 94 [(.t 17),(.t 20)]) [0,1,2,3] [0,1,2,3],
sd 16 (.mv (.t 21)) [0,1,2,3,4],
sd 22 (.ext (.t 16) 0) [0,1,2,3,4,5],
sd 23 (.ext (.t 16) 1) [0,1,2,3,4,5],
sq 7 (.zbox [dS ⟨#[]⟩,dS ⟨#[]⟩,dS ⟨#[]⟩,dI 0,dI 0,dI 0,dI 0,dB false,dI 0,dN,dN,dN,dN,dI 0,dI 0,dS ⟨#[]⟩,dN,dN,dI 0,dI 0,dS ⟨#[]⟩,dN,dN]),
⟨none,none,.store 23 (.t 7) (.t 22),[0,1,2,3,4,5,6,8],(.lone [])⟩,
sd 8 (.mv (.t 23)) [0,1,2,3,4,5,6,7,8,9]])
 (.seq (.block 0 (.seq (.reg [sq 25 (.mv (.t 8)),
sq 26 (.not (.t 25)),
sq 24 (.mv (.t 26))])
 (.cond (.t 24)
 (.seq (.reg [sq 27 (.load (some 6) (.t 2)),
sq 28 (.call 60 [(.t 27)]),
sq 29 (.build [dS ⟨#[]⟩,dS ⟨#[]⟩,dS ⟨#[]⟩,dI 0,dI 0,dI 0,dI 0,dB false,dI 0,dN,dN,dN,dN,dI 0,dI 0,dS ⟨#[]⟩,dN,dN,dI 0,dI 0,dS ⟨#[]⟩,dN,dN] []),
su (.store 6 (.t 4) (.t 28)),
su (.store 23 (.t 5) (.t 29)),
sq 6 (.mv (kI 7))])
 .ret)
 (.seq (.sem (.reg [sq 31 (.fieldA 0 (.t 3)),
sq 32 (.fieldA 4 (.t 31)),
sq 33 (.load none (.t 32)),
sq 34 (.bin .neq (.t 33) (kI 0)),
sq 35 (.mv (.t 34)),
zg 36 35 true (.fieldA 0 (.t 3)),
zg 37 35 true (.fieldA 4 (.t 36)),
zg 38 35 true (.load none (.t 37)),
zg 39 35 true (.fieldA 0 (.t 7)),
zg 40 35 true (.fieldA 4 (.t 39)),
zg 41 35 true (.load none (.t 40)),
zg 42 35 true (.bin .neq (.t 38) (.t 41)),
sq 43 (.pick (.t 35) (.t 42) (kB false)),
sq 44 (.mv (.t 43)),
zg 45 44 false (.fieldA 0 (.t 3)),
zg 46 44 false (.fieldA 3 (.t 45)),
zg 47 44 false (.load none (.t 46)),
zg 48 44 false (.bin .neq (.t 47) (kI 0)),
zg 49 44 false (.mv (.t 48)),
zg 50 49 true (.fieldA 0 (.t 3)),
zg 51 49 true (.fieldA 3 (.t 50)),
zg 52 49 true (.load none (.t 51)),
zg 53 49 true (.fieldA 0 (.t 7)),
zg 54 49 true (.fieldA 3 (.t 53)),
zg 55 49 true (.load none (.t 54)),
zg 56 49 true (.bin .neq (.t 52) (.t 55)),
zg 57 44 false (.pick (.t 49) (.t 56) (kB false)),
sq 58 (.pick (.t 44) (kB true) (.t 57)),
sq 30 (.mv (.t 58))]))
 (.cond (.t 30)
 (.seq (.reg [sq 59 (.load (some 6) (.t 2)),
sq 60 (.call 60 [(.t 59)]),
sq 61 (.build [dS ⟨#[]⟩,dS ⟨#[]⟩,dS ⟨#[]⟩,dI 0,dI 0,dI 0,dI 0,dB false,dI 0,dN,dN,dN,dN,dI 0,dI 0,dS ⟨#[]⟩,dN,dN,dI 0,dI 0,dS ⟨#[]⟩,dN,dN] []),
su (.store 6 (.t 4) (.t 60)),
su (.store 23 (.t 5) (.t 61)),
sq 6 (.mv (kI 9))])
 .ret)
 .skip)))))
 (.seq (.reg [sq 62 (.load (some 23) (.t 3)),
sq 63 (.call 83 [(.t 62)]),
sq 9 (.zbox [dS ⟨#[]⟩,dS ⟨#[]⟩,dS ⟨#[]⟩,dI 0,dI 0,dI 0,dI 0,dB false,dI 0,dN,dN,dN,dN,dI 0,dI 0,dS ⟨#[]⟩,dN,dN,dI 0,dI 0,dS ⟨#[]⟩,dN,dN]),
su (.store 23 (.t 9) (.t 63))])
 (.seq (.regd [sq 64 (.fieldA 0 (.t 7)),
sd 65 (.fieldA 3 (.t 64)) [0],
sd 66 (.load none (.t 65)) [0,1],
sq 67 (.fieldA 0 (.t 7)),
sd 68 (.fieldA 6 (.t 67)) [3],
sd 69 (.load none (.t 68)) [3,4],
sq 70 (.fieldA 0 (.t 7)),
sd 71 (.fieldA 5 (.t 70)) [6],
sd 72 (.load none (.t 71)) [6,7],
sq 73 (.fieldA 0 (.t 7)),
sd 74 (.fieldA 4 (.t 73)) [9],
sd 75 (.load none (.t 74)) [9,10],
sd 76 (.fieldA 0 (.t 9)) [0,1,2],
sd 77 (.fieldA 3 (.t 76)) [0,1,2,12],
⟨none,none,.store 1 (.t 77) (.t 66),[0,1,2,12,13],(.lone [7,67,68,7,70,71,7,73,74])⟩,
sd 78 (.fieldA 0 (.t 9)) [0,1,2,3,4,5,12,13,14],
sd 79 (.fieldA 6 (.t 78)) [0,1,2,3,4,5,12,13,14,15],
⟨none,none,.store 1 (.t 79) (.t 69),[0,1,2,3,4,5,12,13,14,15,16],(.lone [7,70,71,7,73,74])⟩,
sd 80 (.fieldA 0 (.t 9)) [0,1,2,3,4,5,6,7,8,12,13,14,15,16,17],
sd 81 (.fieldA 5 (.t 80)) [0,1,2,3,4,5,6,7,8,12,13,14,15,16,17,18],
⟨none,none,.store 1 (.t 81) (.t 72),[0,1,2,3,4,5,6,7,8,12,13,14,15,16,17,18,19],(.lone [7,73,74])⟩,
sd 82 (.fieldA 0 (.t 9)) [0,1,2,3,4,5,6,7,8,9,10,11,12,13,14,15,16,17,18,19,20],
sd 83 (.fieldA 4 (.t 82)) [0,1,2,3,4,5,6,7,8,9,10,11,12,13,14,15,16,17,18,19,20,21],
⟨none,none,.store 1 (.t 83) (.t 75),[0,1,2,3,4,5,6,7,8,9,10,11,12,13,14,15,16,17,18,19,20,21,22],(.lone [])⟩])
 (.seq (.sem (.seq (.reg [sq 84 (.fieldA 13 (.t 9)),
sq 85 (.load (some 5) (.t 84)),
sq 86 (.fieldA 13 (.t 7)),
sq 87 (.load (some 5) (.t 86)),
sq 88 (.call 52 [(.t 85),(.t 87)]),
sq 89 (.not (.t 88))])
 (.cond (.t 89)
 (.reg [sq 90 (.fieldA 0 (.t 9)),
sq 91 (.fieldA 5 (.t 90)),
sq 92 (.load none (.t 91)),
sq 93 (.bin .add (.t 92) (kI 1)),
sq 94 (.fieldA 0 (.t 9)),
sq 95 (.fieldA 5 (.t 94)),
⟨none,none,.store 1 (.t 95) (.t 93),[],(.lone [9,90,91,9,94])⟩])
 .skip)))
 (.seq (.seq (.reg [sq 96 (.load (some 23) (.t 9)),
sq 97 (.load (some 23) (.t 7)),
zl 98 (.call 20 [(.t 96),(.t 97)]) [] [9,7]])
 (.cond (.t 98)
 (.seq (.regd [sq 99 (.load (some 6) (.t 2)),
zn 100 (.call 60 [(.t 99)]) [0] [0],
sq 101 (.load (some 23) (.t 7)),
⟨none,none,.store 6 (.t 4) (.t 100),[0,1],(.lone [7])⟩,
⟨none,none,.store 23 (.t 5) (.t 101),[0,1,2,3],(.lone [])⟩,
sd 6 (.mv (kI 0)) [0,1,2,3,4]])
 .ret)
 .skip))
 (.seq (.seq (.reg [sq 102 (.fieldA 0 (.t 2)),
sq 103 (.load none (.t 102)),
sq 104 (.bin .geq (.t 103) (kI 1000000000000000))])
 (.cond (.t 104)
 (.seq (.reg [sq 105 (.load (some 6) (.t 2)),
sq 106 (.call 60 [(.t 105)]),
sq 107 (.build [dS ⟨#[]⟩,dS ⟨#[]⟩,dS ⟨#[]⟩,dI 0,dI 0,dI 0,dI 0,dB false,dI 0,dN,dN,dN,dN,dI 0,dI 0,dS ⟨#[]⟩,dN,dN,dI 0,dI 0,dS ⟨#[]⟩,dN,dN] []),
su (.store 6 (.t 4) (.t 106)),
su (.store 23 (.t 5) (.t 107)),
sq 6 (.mv (kI 15))])
 .ret)
 .skip))
 (.seq (.sem (.reg [sq 108 (.fieldA 0 (.t 2)),
sq 109 (.load none (.t 108)),
sq 110 (.bin .add (.t 109) (kI 1)),
sq 111 (.fieldA 0 (.t 9)),
sq 112 (.fieldA 4 (.t 111)),
⟨none,none,.store 1 (.t 112) (.t 110),[],(.lone [2,108,9,111])⟩]))
 (.seq (.regd [sq 113 (.load (some 6) (.t 2)),
sq 114 (.load (some 23) (.t 9)),
zn 115 (.call 93 [(.t 113),(kI 1),(.t 114)]) [0,1] [0,1],
sq 116 (.load (some 23) (.t 9)),
⟨none,none,.store 6 (.t 4) (.t 115),[0,1,2],(.lone [9])⟩,
⟨none,none,.store 23 (.t 5) (.t 116),[0,1,2,3,4],(.lone [])⟩,
sd 6 (.mv (kI 0)) [0,1,2,3,4,5]])
 .ret)))))))))))⟩
theorem a65_ok:afn Tryz.prog 65=some a65.er:=by kernel_rfl
theorem F65_ok{x0 x1 r}(h:F65 x0 x1=some r):CallD Tryz.prog 65 [.agg [dI x0.Rev,dI x0.Floor,dI x0.NextUid,dM (x0.Base.map eObject),dM (x0.Objects.map eObject),dM (x0.History.map eChange)],.agg [dS x1.Meta.Kind,dS x1.Meta.Namespace,dS x1.Meta.Name,dI x1.Meta.Uid,dI x1.Meta.Version,dI x1.Meta.Generation,dI x1.Meta.Created,dB x1.Meta.Deleting,dI x1.Meta.DeleteAt,dM (x1.Meta.Labels.map eLabel),dM (x1.Meta.Owners.map eOwner),dM (x1.Meta.Finalizers.map eS),dM (x1.Meta.Managers.map eManager),dI x1.Spec.Kind,dI x1.Spec.N,dS x1.Spec.S,dM (x1.Spec.List_.map eTValue),dM (x1.Spec.Fields.map eTField),dI x1.Status.Kind,dI x1.Status.N,dS x1.Status.S,dM (x1.Status.List_.map eTValue),dM (x1.Status.Fields.map eTField)]] [] (tupV [.agg [dI r.1,dI r.2.1,dI x0.NextUid,.own 0 0 0 (r.2.2.1.length) none,.own 1 0 0 (r.2.2.2.1.length) none,.own 2 0 0 (r.2.2.2.2.1.length) none],.agg [dS r.2.2.2.2.2.1,dS r.2.2.2.2.2.2.1,dS r.2.2.2.2.2.2.2.1,dI r.2.2.2.2.2.2.2.2.1,dI r.2.2.2.2.2.2.2.2.2.1,dI r.2.2.2.2.2.2.2.2.2.2.1,dI r.2.2.2.2.2.2.2.2.2.2.2.1,dB r.2.2.2.2.2.2.2.2.2.2.2.2.1,dI r.2.2.2.2.2.2.2.2.2.2.2.2.2.1,dM (r.2.2.2.2.2.2.2.2.2.2.2.2.2.2.1.map eLabel),dM (r.2.2.2.2.2.2.2.2.2.2.2.2.2.2.2.1.map eOwner),dM (r.2.2.2.2.2.2.2.2.2.2.2.2.2.2.2.2.1.map eS),dM (r.2.2.2.2.2.2.2.2.2.2.2.2.2.2.2.2.2.1.map eManager),dI r.2.2.2.2.2.2.2.2.2.2.2.2.2.2.2.2.2.2.1,dI r.2.2.2.2.2.2.2.2.2.2.2.2.2.2.2.2.2.2.2.1,dS r.2.2.2.2.2.2.2.2.2.2.2.2.2.2.2.2.2.2.2.2.1,dM (r.2.2.2.2.2.2.2.2.2.2.2.2.2.2.2.2.2.2.2.2.2.1.map eTValue),dM (r.2.2.2.2.2.2.2.2.2.2.2.2.2.2.2.2.2.2.2.2.2.2.1.map eTField),dI r.2.2.2.2.2.2.2.2.2.2.2.2.2.2.2.2.2.2.2.2.2.2.2.1,dI r.2.2.2.2.2.2.2.2.2.2.2.2.2.2.2.2.2.2.2.2.2.2.2.2.1,dS r.2.2.2.2.2.2.2.2.2.2.2.2.2.2.2.2.2.2.2.2.2.2.2.2.2.1,dM (r.2.2.2.2.2.2.2.2.2.2.2.2.2.2.2.2.2.2.2.2.2.2.2.2.2.2.1.map eTValue),dM (r.2.2.2.2.2.2.2.2.2.2.2.2.2.2.2.2.2.2.2.2.2.2.2.2.2.2.2.1.map eTField)],.c (dI r.2.2.2.2.2.2.2.2.2.2.2.2.2.2.2.2.2.2.2.2.2.2.2.2.2.2.2.2)]) [some (.arr 0 23 (r.2.2.1.map eObject)),some (.arr 0 23 (r.2.2.2.1.map eObject)),some (.arr 0 25 (r.2.2.2.2.1.map eChange))]:=by
 refine callS a65_ok (by simp[a65]) ?_
 rw[F65]at h
 simp only[a65,VW.down,Nat.reduceEqDiff,reduceCtorEq,Nat.reduceAdd,Nat.reduceLeDiff,Nat.reduceLT,Nat.reduceBEq,Nat.reduceSub,EE.down]
 obtain⟨t1,ht1,h⟩:=bi h
 refine cN [] (F92_ok ht1) trivial (ww ?_)
 refine condBh h (fun c2 h=>?_) (fun c2 h=>?_)
 ·refine ww ?_
  obtain⟨t3,ht3,h⟩:=bi h
  refine cN [] (F60_ok ht3) trivial (ww ?_)
  cases h
  exact eF [some 4,some 5,some 6]
 refine ww ?_
 obtain⟨t4,ht4,h⟩:=bi h
 refine cN [] (F24_ok ht4) trivial (ww ?_)
 obtain⟨t5,ht5,h⟩:=bi h
 refine cN [] (F94_ok ht5) trivial (ww ?_)
 refine kD_new (by simp[wrs,allW,hset]) (ww ?_)
 refine kD_new (by simp[wrs,allW,hset]) (ww ?_)
 refine condBh h (fun c6 h=>?_) (fun c6 h=>?_)
 ·refine ww ?_
  obtain⟨t7,ht7,h⟩:=bi h
  refine cN [] (F60_ok ht7) trivial (ww ?_)
  cases h
  exact eF [some 9,some 10,some 11]
 refine ww ?_
 obtain⟨o8,ho,h⟩:=bi h
 refine cutS (fun s=>s=⟨[(2,.one (.c (.pt 0 0))),(3,.one (.c (.pt 1 0))),(4,.one (.c (.pt 2 0))),(5,.one (.c (.pt 3 0))),(7,.one (.c (.pt 4 0))),(30,.one (.c (dB o8)))],[some (.box [dI x0.Rev,dI x0.Floor,dI x0.NextUid,dM (x0.Base.map eObject),dM (x0.Objects.map eObject),dM (x0.History.map eChange)]),some (.box [dS x1.Meta.Kind,dS x1.Meta.Namespace,dS x1.Meta.Name,dI x1.Meta.Uid,dI x1.Meta.Version,dI x1.Meta.Generation,dI x1.Meta.Created,dB x1.Meta.Deleting,dI x1.Meta.DeleteAt,dM (x1.Meta.Labels.map eLabel),dM (x1.Meta.Owners.map eOwner),dM (x1.Meta.Finalizers.map eS),dM (x1.Meta.Managers.map eManager),dI x1.Spec.Kind,dI x1.Spec.N,dS x1.Spec.S,dM (x1.Spec.List_.map eTValue),dM (x1.Spec.Fields.map eTField),dI x1.Status.Kind,dI x1.Status.N,dS x1.Status.S,dM (x1.Status.List_.map eTValue),dM (x1.Status.Fields.map eTField)]),some (.box [dI 0,dI 0,dI 0,dN,dN,dN]),some (.box [dS ((⟨#[]⟩:ByteArray)),dS ((⟨#[]⟩:ByteArray)),dS ((⟨#[]⟩:ByteArray)),dI 0,dI 0,dI 0,dI 0,dB false,dI 0,dN,dN,dN,dN,dI 0,dI 0,dS ((⟨#[]⟩:ByteArray)),dN,dN,dI 0,dI 0,dS ((⟨#[]⟩:ByteArray)),dN,dN]),some (.box [dS t5.1,dS t5.2.1,dS t5.2.2.1,dI t5.2.2.2.1,dI t5.2.2.2.2.1,dI t5.2.2.2.2.2.1,dI t5.2.2.2.2.2.2.1,dB t5.2.2.2.2.2.2.2.1,dI t5.2.2.2.2.2.2.2.2.1,.own 5 0 0 (t5.2.2.2.2.2.2.2.2.2.1.length) none,.own 6 0 0 (t5.2.2.2.2.2.2.2.2.2.2.1.length) none,.own 7 0 0 (t5.2.2.2.2.2.2.2.2.2.2.2.1.length) none,.own 8 0 0 (t5.2.2.2.2.2.2.2.2.2.2.2.2.1.length) none,dI t5.2.2.2.2.2.2.2.2.2.2.2.2.2.1,dI t5.2.2.2.2.2.2.2.2.2.2.2.2.2.2.1,dS t5.2.2.2.2.2.2.2.2.2.2.2.2.2.2.2.1,dM (t5.2.2.2.2.2.2.2.2.2.2.2.2.2.2.2.2.1.map eTValue),dM (t5.2.2.2.2.2.2.2.2.2.2.2.2.2.2.2.2.2.1.map eTField),dI t5.2.2.2.2.2.2.2.2.2.2.2.2.2.2.2.2.2.2.1,dI t5.2.2.2.2.2.2.2.2.2.2.2.2.2.2.2.2.2.2.2.1,dS t5.2.2.2.2.2.2.2.2.2.2.2.2.2.2.2.2.2.2.2.2.1,dM (t5.2.2.2.2.2.2.2.2.2.2.2.2.2.2.2.2.2.2.2.2.2.1.map eTValue),dM (t5.2.2.2.2.2.2.2.2.2.2.2.2.2.2.2.2.2.2.2.2.2.2.1.map eTField)]),some (.arr 0 2 (t5.2.2.2.2.2.2.2.2.2.1.map eLabel)),some (.arr 0 5 (t5.2.2.2.2.2.2.2.2.2.2.1.map eOwner)),some (.arr 0 1 (t5.2.2.2.2.2.2.2.2.2.2.2.1.map eS)),some (.arr 0 2 (t5.2.2.2.2.2.2.2.2.2.2.2.2.1.map eManager))]⟩) ?_ ?_
 ·have h:=ho
  clear ho
  refine ww ?_
  refine guardSh h (fun g9 h=>?_) (fun g9 h=>?_)
  ·refine ww ?_
   refine guardSh h (fun g10 h=>?_) (fun g10 h=>?_)
   ·refine ww ?_
    cases h
    exact eM [some 0,some 1,some 2,some 3,some 8,some 4,some 5,some 6,some 7] rfl
   refine ww ?_
   refine guardSh h (fun g11 h=>?_) (fun g11 h=>?_)
   ·refine ww ?_
    cases h
    exact eM [some 0,some 1,some 2,some 3,some 8,some 4,some 5,some 6,some 7] rfl
   refine ww ?_
   cases h
   exact eM [some 0,some 1,some 2,some 3,some 8,some 4,some 5,some 6,some 7] rfl
  refine ww ?_
  refine guardSh h (fun g12 h=>?_) (fun g12 h=>?_)
  ·refine ww ?_
   cases h
   exact eM [some 0,some 1,some 2,some 3,some 8,some 4,some 5,some 6,some 7] rfl
  refine ww ?_
  cases h
  exact eM [some 0,some 1,some 2,some 3,some 8,some 4,some 5,some 6,some 7] rfl
 rintro _ rfl
 clear ho
 refine ww ?_
 refine condBh h (fun c13 h=>?_) (fun c13 h=>?_)
 ·refine ww ?_
  obtain⟨t14,ht14,h⟩:=bi h
  refine cN [] (F60_ok ht14) trivial (ww ?_)
  cases h
  exact eF [some 9,some 10,some 11]
 refine ww ?_
 obtain⟨t15,ht15,h⟩:=bi h
 refine cN [] (F83_ok ht15) trivial (ww ?_)
 obtain⟨o16,ho,h⟩:=bi h
 refine cutS (fun s=>s=⟨[(2,.one (.c (.pt 0 0))),(4,.one (.c (.pt 1 0))),(5,.one (.c (.pt 2 0))),(7,.one (.c (.pt 3 0))),(9,.one (.c (.pt 8 0)))],[some (.box [dI x0.Rev,dI x0.Floor,dI x0.NextUid,dM (x0.Base.map eObject),dM (x0.Objects.map eObject),dM (x0.History.map eChange)]),some (.box [dI 0,dI 0,dI 0,dN,dN,dN]),some (.box [dS ((⟨#[]⟩:ByteArray)),dS ((⟨#[]⟩:ByteArray)),dS ((⟨#[]⟩:ByteArray)),dI 0,dI 0,dI 0,dI 0,dB false,dI 0,dN,dN,dN,dN,dI 0,dI 0,dS ((⟨#[]⟩:ByteArray)),dN,dN,dI 0,dI 0,dS ((⟨#[]⟩:ByteArray)),dN,dN]),some (.box [dS t5.1,dS t5.2.1,dS t5.2.2.1,dI t5.2.2.2.1,dI t5.2.2.2.2.1,dI t5.2.2.2.2.2.1,dI t5.2.2.2.2.2.2.1,dB t5.2.2.2.2.2.2.2.1,dI t5.2.2.2.2.2.2.2.2.1,.own 4 0 0 (t5.2.2.2.2.2.2.2.2.2.1.length) none,.own 5 0 0 (t5.2.2.2.2.2.2.2.2.2.2.1.length) none,.own 6 0 0 (t5.2.2.2.2.2.2.2.2.2.2.2.1.length) none,.own 7 0 0 (t5.2.2.2.2.2.2.2.2.2.2.2.2.1.length) none,dI t5.2.2.2.2.2.2.2.2.2.2.2.2.2.1,dI t5.2.2.2.2.2.2.2.2.2.2.2.2.2.2.1,dS t5.2.2.2.2.2.2.2.2.2.2.2.2.2.2.2.1,dM (t5.2.2.2.2.2.2.2.2.2.2.2.2.2.2.2.2.1.map eTValue),dM (t5.2.2.2.2.2.2.2.2.2.2.2.2.2.2.2.2.2.1.map eTField),dI t5.2.2.2.2.2.2.2.2.2.2.2.2.2.2.2.2.2.2.1,dI t5.2.2.2.2.2.2.2.2.2.2.2.2.2.2.2.2.2.2.2.1,dS t5.2.2.2.2.2.2.2.2.2.2.2.2.2.2.2.2.2.2.2.2.1,dM (t5.2.2.2.2.2.2.2.2.2.2.2.2.2.2.2.2.2.2.2.2.2.1.map eTValue),dM (t5.2.2.2.2.2.2.2.2.2.2.2.2.2.2.2.2.2.2.2.2.2.2.1.map eTField)]),some (.arr 0 2 (t5.2.2.2.2.2.2.2.2.2.1.map eLabel)),some (.arr 0 5 (t5.2.2.2.2.2.2.2.2.2.2.1.map eOwner)),some (.arr 0 1 (t5.2.2.2.2.2.2.2.2.2.2.2.1.map eS)),some (.arr 0 2 (t5.2.2.2.2.2.2.2.2.2.2.2.2.1.map eManager)),some (.box [dS x1.Meta.Kind,dS x1.Meta.Namespace,dS x1.Meta.Name,dI t5.2.2.2.1,dI t5.2.2.2.2.1,dI o16,dI t5.2.2.2.2.2.2.1,dB x1.Meta.Deleting,dI x1.Meta.DeleteAt,.own 9 0 0 (t15.1.length) none,.own 10 0 0 (t15.2.1.length) none,.own 11 0 0 (t15.2.2.1.length) none,.own 12 0 0 (t15.2.2.2.1.length) none,dI t15.2.2.2.2.1,dI t15.2.2.2.2.2.1,dS t15.2.2.2.2.2.2.1,dM (t15.2.2.2.2.2.2.2.1.map eTValue),dM (t15.2.2.2.2.2.2.2.2.1.map eTField),dI t15.2.2.2.2.2.2.2.2.2.1,dI t15.2.2.2.2.2.2.2.2.2.2.1,dS t15.2.2.2.2.2.2.2.2.2.2.2.1,dM (t15.2.2.2.2.2.2.2.2.2.2.2.2.1.map eTValue),dM (t15.2.2.2.2.2.2.2.2.2.2.2.2.2.map eTField)]),some (.arr 0 2 (t15.1.map eLabel)),some (.arr 0 5 (t15.2.1.map eOwner)),some (.arr 0 1 (t15.2.2.1.map eS)),some (.arr 0 2 (t15.2.2.2.1.map eManager))]⟩) ?_ ?_
 ·have h:=ho
  clear ho
  refine ww ?_
  obtain⟨t17,ht17,h⟩:=bi h
  refine cN [] (F52_ok ht17) trivial (ww ?_)
  refine condBh h (fun c18 h=>?_) (fun c18 h=>?_)
  ·refine ww ?_
   cases h
   exact eM [some 0,some 2,some 3,some 4,some 5,some 6,some 7,some 8,some 13,some 9,some 10,some 11,some 12] rfl
  refine ww ?_
  cases h
  exact eM [some 0,some 2,some 3,some 4,some 5,some 6,some 7,some 8,some 13,some 9,some 10,some 11,some 12] rfl
 rintro _ rfl
 clear ho
 refine ww ?_
 obtain⟨t19,ht19,h⟩:=bi h
 refine callX_bor (F20_ok ht19) (by simp only[borAs,bors,hp,List.getElem?_cons_zero,List.getElem?_cons_succ,Option.join_some,List.drop_zero,bor_full',true_and,Nat.zero_add,List.length_map,Nat.le_refl,nrm,List.length_cons,List.length_nil,Nat.reduceAdd,Nat.reduceLeDiff,List.take_succ_cons,List.take_zero,List.take_nil,List.map_cons,List.map_nil,List.length_set,EE.down]) rfl ?_
 refine ww ?_
 refine condBh h (fun c20 h=>?_) (fun c20 h=>?_)
 ·refine ww ?_
  obtain⟨t21,ht21,h⟩:=bi h
  refine cN [] (F60_ok ht21) trivial (ww ?_)
  refine kD_new (by simp[wrs,allW,hset]) (ww ?_)
  cases h
  exact eF [some 13,some 14,some 15]
 refine ww ?_
 refine condSh h (fun c22 h=>?_) (fun c22 h=>?_)
 ·refine ww ?_
  obtain⟨t23,ht23,h⟩:=bi h
  refine cN [] (F60_ok ht23) trivial (ww ?_)
  cases h
  exact eF [some 13,some 14,some 15]
 refine ww ?_
 obtain⟨o24,ho,h⟩:=bi h
 refine cutS (fun s=>s=⟨[(2,.one (.c (.pt 0 0))),(4,.one (.c (.pt 1 0))),(5,.one (.c (.pt 2 0))),(9,.one (.c (.pt 3 0)))],[some (.box [dI x0.Rev,dI x0.Floor,dI x0.NextUid,dM (x0.Base.map eObject),dM (x0.Objects.map eObject),dM (x0.History.map eChange)]),some (.box [dI 0,dI 0,dI 0,dN,dN,dN]),some (.box [dS ((⟨#[]⟩:ByteArray)),dS ((⟨#[]⟩:ByteArray)),dS ((⟨#[]⟩:ByteArray)),dI 0,dI 0,dI 0,dI 0,dB false,dI 0,dN,dN,dN,dN,dI 0,dI 0,dS ((⟨#[]⟩:ByteArray)),dN,dN,dI 0,dI 0,dS ((⟨#[]⟩:ByteArray)),dN,dN]),some (.box [dS x1.Meta.Kind,dS x1.Meta.Namespace,dS x1.Meta.Name,dI t5.2.2.2.1,dI ((IntKind.i64.wrap (x0.Rev+1))),dI o16,dI t5.2.2.2.2.2.2.1,dB x1.Meta.Deleting,dI x1.Meta.DeleteAt,dM (t15.1.map eLabel),dM (t15.2.1.map eOwner),dM (t15.2.2.1.map eS),dM (t15.2.2.2.1.map eManager),dI t15.2.2.2.2.1,dI t15.2.2.2.2.2.1,dS t15.2.2.2.2.2.2.1,dM (t15.2.2.2.2.2.2.2.1.map eTValue),dM (t15.2.2.2.2.2.2.2.2.1.map eTField),dI t15.2.2.2.2.2.2.2.2.2.1,dI t15.2.2.2.2.2.2.2.2.2.2.1,dS t15.2.2.2.2.2.2.2.2.2.2.2.1,dM (t15.2.2.2.2.2.2.2.2.2.2.2.2.1.map eTValue),dM (t15.2.2.2.2.2.2.2.2.2.2.2.2.2.map eTField)])]⟩) ?_ ?_
 ·have h:=ho
  clear ho
  refine ww ?_
  cases h
  exact eM [some 0,some 1,some 2,some 8] rfl
 rintro _ rfl
 clear ho
 refine ww ?_
 obtain⟨t25,ht25,h⟩:=bi h
 refine cN [] (F93_ok ht25) trivial (ww ?_)
 refine kD_new (by simp[wrs,allW,hset]) (ww ?_)
 cases h
 exact eF [some 4,some 5,some 6]
def F66(x0:TStore)(x1:ByteArray)(x2:Int):Option (Int×Int×(List Object)×(List Object)×(List Change)×Object×Int):=(F94 x0 x1).bind fun t1=>(if(nb t1.2.2.2.2.2.2.2.2.2.2.2.2.2.2.2.2.2.2.2.2.2.2.2)=true then(F60 x0).bind fun t3=>some ((x0.Rev,x0.Floor,t3.1,t3.2.1,t3.2.2,(⟨(⟨(⟨#[]⟩:ByteArray),(⟨#[]⟩:ByteArray),(⟨#[]⟩:ByteArray),0,0,0,0,false,0,[],[],[],[]⟩:Meta),(⟨0,0,(⟨#[]⟩:ByteArray),[],[]⟩:TValue),(⟨0,0,(⟨#[]⟩:ByteArray),[],[]⟩:TValue)⟩:Object),7))else(((if¬(x2=0)then some (decide (¬(x2=t1.2.2.2.2.1)))else some false)).bind fun o4=>(if o4=true then(F60 x0).bind fun t7=>some ((x0.Rev,x0.Floor,t7.1,t7.2.1,t7.2.2,(⟨(⟨(⟨#[]⟩:ByteArray),(⟨#[]⟩:ByteArray),(⟨#[]⟩:ByteArray),0,0,0,0,false,0,[],[],[],[]⟩:Meta),(⟨0,0,(⟨#[]⟩:ByteArray),[],[]⟩:TValue),(⟨0,0,(⟨#[]⟩:ByteArray),[],[]⟩:TValue)⟩:Object),9))else(if 1000000000000000≤x0.Rev then(F60 x0).bind fun t9=>some ((x0.Rev,x0.Floor,t9.1,t9.2.1,t9.2.2,(⟨(⟨(⟨#[]⟩:ByteArray),(⟨#[]⟩:ByteArray),(⟨#[]⟩:ByteArray),0,0,0,0,false,0,[],[],[],[]⟩:Meta),(⟨0,0,(⟨#[]⟩:ByteArray),[],[]⟩:TValue),(⟨0,0,(⟨#[]⟩:ByteArray),[],[]⟩:TValue)⟩:Object),15))else((some (())).bind fun o10=>(F93 x0 2 ((⟨(⟨t1.1,t1.2.1,t1.2.2.1,t1.2.2.2.1,(IntKind.i64.wrap (x0.Rev+1)),t1.2.2.2.2.2.1,t1.2.2.2.2.2.2.1,t1.2.2.2.2.2.2.2.1,t1.2.2.2.2.2.2.2.2.1,t1.2.2.2.2.2.2.2.2.2.1,t1.2.2.2.2.2.2.2.2.2.2.1,t1.2.2.2.2.2.2.2.2.2.2.2.1,t1.2.2.2.2.2.2.2.2.2.2.2.2.1⟩:Meta),(⟨t1.2.2.2.2.2.2.2.2.2.2.2.2.2.1,t1.2.2.2.2.2.2.2.2.2.2.2.2.2.2.1,t1.2.2.2.2.2.2.2.2.2.2.2.2.2.2.2.1,t1.2.2.2.2.2.2.2.2.2.2.2.2.2.2.2.2.1,t1.2.2.2.2.2.2.2.2.2.2.2.2.2.2.2.2.2.1⟩:TValue),(⟨t1.2.2.2.2.2.2.2.2.2.2.2.2.2.2.2.2.2.2.1,t1.2.2.2.2.2.2.2.2.2.2.2.2.2.2.2.2.2.2.2.1,t1.2.2.2.2.2.2.2.2.2.2.2.2.2.2.2.2.2.2.2.2.1,t1.2.2.2.2.2.2.2.2.2.2.2.2.2.2.2.2.2.2.2.2.2.1,t1.2.2.2.2.2.2.2.2.2.2.2.2.2.2.2.2.2.2.2.2.2.2.1⟩:TValue)⟩:Object))).bind fun t11=>some ((t11.1,t11.2.1,t11.2.2.1,t11.2.2.2.1,t11.2.2.2.2,(⟨(⟨t1.1,t1.2.1,t1.2.2.1,t1.2.2.2.1,(IntKind.i64.wrap (x0.Rev+1)),t1.2.2.2.2.2.1,t1.2.2.2.2.2.2.1,t1.2.2.2.2.2.2.2.1,t1.2.2.2.2.2.2.2.2.1,t1.2.2.2.2.2.2.2.2.2.1,t1.2.2.2.2.2.2.2.2.2.2.1,t1.2.2.2.2.2.2.2.2.2.2.2.1,t1.2.2.2.2.2.2.2.2.2.2.2.2.1⟩:Meta),(⟨t1.2.2.2.2.2.2.2.2.2.2.2.2.2.1,t1.2.2.2.2.2.2.2.2.2.2.2.2.2.2.1,t1.2.2.2.2.2.2.2.2.2.2.2.2.2.2.2.1,t1.2.2.2.2.2.2.2.2.2.2.2.2.2.2.2.2.1,t1.2.2.2.2.2.2.2.2.2.2.2.2.2.2.2.2.2.1⟩:TValue),(⟨t1.2.2.2.2.2.2.2.2.2.2.2.2.2.2.2.2.2.2.1,t1.2.2.2.2.2.2.2.2.2.2.2.2.2.2.2.2.2.2.2.1,t1.2.2.2.2.2.2.2.2.2.2.2.2.2.2.2.2.2.2.2.2.1,t1.2.2.2.2.2.2.2.2.2.2.2.2.2.2.2.2.2.2.2.2.2.1,t1.2.2.2.2.2.2.2.2.2.2.2.2.2.2.2.2.2.2.2.2.2.2.1⟩:TValue)⟩:Object),0)))))))
def a66:AFn:=⟨52,[(.cell 6 (some 6)),(.cell 7 (some 23)),(.tmp 8)],
 (.seq (.reg [sq 3 (.box (.t 0)),
sq 6 (.zbox [dI 0,dI 0,dI 0,dN,dN,dN]),
sq 7 (.zbox [dS ⟨#[]⟩,dS ⟨#[]⟩,dS ⟨#[]⟩,dI 0,dI 0,dI 0,dI 0,dB false,dI 0,dN,dN,dN,dN,dI 0,dI 0,dS ⟨#[]⟩,dN,dN,dI 0,dI 0,dS ⟨#[]⟩,dN,dN]),
sq 8 (.mv (kI 0))])
 (.seq (.reg [sq 12 (.load (some 6) (.t 3)),
sq 13 (.mv (.t 1)),
sq 14 (.call 94 [(.t 12),(.t 13)]),
sq 11 (.mv (.t 14)),
sq 15 (.ext (.t 11) 0),
sq 16 (.ext (.t 11) 1),
sq 9 (.zbox [dS ⟨#[]⟩,dS ⟨#[]⟩,dS ⟨#[]⟩,dI 0,dI 0,dI 0,dI 0,dB false,dI 0,dN,dN,dN,dN,dI 0,dI 0,dS ⟨#[]⟩,dN,dN,dI 0,dI 0,dS ⟨#[]⟩,dN,dN]),
su (.store 23 (.t 9) (.t 15)),
sq 10 (.mv (.t 16))])
 (.seq (.block 0 (.seq (.reg [sq 18 (.mv (.t 10)),
sq 19 (.not (.t 18)),
sq 17 (.mv (.t 19))])
 (.cond (.t 17)
 (.seq (.reg [sq 20 (.load (some 6) (.t 3)),
sq 21 (.call 60 [(.t 20)]),
sq 22 (.build [dS ⟨#[]⟩,dS ⟨#[]⟩,dS ⟨#[]⟩,dI 0,dI 0,dI 0,dI 0,dB false,dI 0,dN,dN,dN,dN,dI 0,dI 0,dS ⟨#[]⟩,dN,dN,dI 0,dI 0,dS ⟨#[]⟩,dN,dN] []),
su (.store 6 (.t 6) (.t 21)),
su (.store 23 (.t 7) (.t 22)),
sq 8 (.mv (kI 7))])
 .ret)
 (.seq (.sem (.reg [sq 24 (.mv (.t 2)),
sq 25 (.bin .neq (.t 24) (kI 0)),
sq 26 (.mv (.t 25)),
zg 27 26 true (.mv (.t 2)),
zg 28 26 true (.fieldA 0 (.t 9)),
zg 29 26 true (.fieldA 4 (.t 28)),
zg 30 26 true (.load none (.t 29)),
zg 31 26 true (.bin .neq (.t 27) (.t 30)),
sq 32 (.pick (.t 26) (.t 31) (kB false)),
sq 23 (.mv (.t 32))]))
 (.cond (.t 23)
 (.seq (.reg [sq 33 (.load (some 6) (.t 3)),
sq 34 (.call 60 [(.t 33)]),
sq 35 (.build [dS ⟨#[]⟩,dS ⟨#[]⟩,dS ⟨#[]⟩,dI 0,dI 0,dI 0,dI 0,dB false,dI 0,dN,dN,dN,dN,dI 0,dI 0,dS ⟨#[]⟩,dN,dN,dI 0,dI 0,dS ⟨#[]⟩,dN,dN] []),
su (.store 6 (.t 6) (.t 34)),
su (.store 23 (.t 7) (.t 35)),
sq 8 (.mv (kI 9))])
 .ret)
 (.seq (.reg [sq 37 (.fieldA 0 (.t 3)),
sq 38 (.load none (.t 37)),
sq 39 (.bin .geq (.t 38) (kI 1000000000000000)),
sq 36 (.mv (.t 39))])
 (.cond (.t 36)
 (.seq (.reg [sq 40 (.load (some 6) (.t 3)),
sq 41 (.call 60 [(.t 40)]),
sq 42 (.build [dS ⟨#[]⟩,dS ⟨#[]⟩,dS ⟨#[]⟩,dI 0,dI 0,dI 0,dI 0,dB false,dI 0,dN,dN,dN,dN,dI 0,dI 0,dS ⟨#[]⟩,dN,dN,dI 0,dI 0,dS ⟨#[]⟩,dN,dN] []),
su (.store 6 (.t 6) (.t 41)),
su (.store 23 (.t 7) (.t 42)),
sq 8 (.mv (kI 15))])
 .ret)
 .skip)))))))
 (.seq (.sem (.reg [sq 43 (.fieldA 0 (.t 3)),
sq 44 (.load none (.t 43)),
sq 45 (.bin .add (.t 44) (kI 1)),
sq 46 (.fieldA 0 (.t 9)),
sq 47 (.fieldA 4 (.t 46)),
⟨none,none,.store 1 (.t 47) (.t 45),[],(.lone [3,43,9,46])⟩]))
 (.seq (.regd [sq 48 (.load (some 6) (.t 3)),
sq 49 (.load (some 23) (.t 9)),
zn 50 (.call 93 [(.t 48),(kI 2),(.t 49)]) [0,1] [0,1],
sq 51 (.load (some 23) (.t 9)),
⟨none,none,.store 6 (.t 6) (.t 50),[0,1,2],(.lone [9])⟩,
⟨none,none,.store 23 (.t 7) (.t 51),[0,1,2,3,4],(.lone [])⟩,
sd 8 (.mv (kI 0)) [0,1,2,3,4,5]])
 .ret)))))⟩
theorem a66_ok:afn Tryz.prog 66=some a66.er:=by kernel_rfl
theorem F66_ok{x0 x1 x2 r}(h:F66 x0 x1 x2=some r):CallD Tryz.prog 66 [.agg [dI x0.Rev,dI x0.Floor,dI x0.NextUid,dM (x0.Base.map eObject),dM (x0.Objects.map eObject),dM (x0.History.map eChange)],.c (dS x1),.c (dI x2)] [] (tupV [.agg [dI r.1,dI r.2.1,dI x0.NextUid,.own 0 0 0 (r.2.2.1.length) none,.own 1 0 0 (r.2.2.2.1.length) none,.own 2 0 0 (r.2.2.2.2.1.length) none],.agg [dS ((r.2.2.2.2.2.1).Meta.Kind),dS ((r.2.2.2.2.2.1).Meta.Namespace),dS ((r.2.2.2.2.2.1).Meta.Name),dI ((r.2.2.2.2.2.1).Meta.Uid),dI ((r.2.2.2.2.2.1).Meta.Version),dI ((r.2.2.2.2.2.1).Meta.Generation),dI ((r.2.2.2.2.2.1).Meta.Created),dB ((r.2.2.2.2.2.1).Meta.Deleting),dI ((r.2.2.2.2.2.1).Meta.DeleteAt),dM (((r.2.2.2.2.2.1).Meta.Labels).map eLabel),dM (((r.2.2.2.2.2.1).Meta.Owners).map eOwner),dM (((r.2.2.2.2.2.1).Meta.Finalizers).map eS),dM (((r.2.2.2.2.2.1).Meta.Managers).map eManager),dI ((r.2.2.2.2.2.1).Spec.Kind),dI ((r.2.2.2.2.2.1).Spec.N),dS ((r.2.2.2.2.2.1).Spec.S),dM (((r.2.2.2.2.2.1).Spec.List_).map eTValue),dM (((r.2.2.2.2.2.1).Spec.Fields).map eTField),dI ((r.2.2.2.2.2.1).Status.Kind),dI ((r.2.2.2.2.2.1).Status.N),dS ((r.2.2.2.2.2.1).Status.S),dM (((r.2.2.2.2.2.1).Status.List_).map eTValue),dM (((r.2.2.2.2.2.1).Status.Fields).map eTField)],.c (dI r.2.2.2.2.2.2)]) [some (.arr 0 23 (r.2.2.1.map eObject)),some (.arr 0 23 (r.2.2.2.1.map eObject)),some (.arr 0 25 (r.2.2.2.2.1.map eChange))]:=by
 refine callS a66_ok (by simp[a66]) ?_
 rw[F66]at h
 simp only[a66,VW.down,Nat.reduceEqDiff,reduceCtorEq,Nat.reduceAdd,Nat.reduceLeDiff,Nat.reduceLT,Nat.reduceBEq,Nat.reduceSub,EE.down]
 obtain⟨t1,ht1,h⟩:=bi h
 refine cN [] (F94_ok ht1) trivial (ww ?_)
 refine condBh h (fun c2 h=>?_) (fun c2 h=>?_)
 ·refine ww ?_
  obtain⟨t3,ht3,h⟩:=bi h
  refine cN [] (F60_ok ht3) trivial (ww ?_)
  cases h
  exact eF [some 8,some 9,some 10]
 refine ww ?_
 obtain⟨o4,ho,h⟩:=bi h
 refine cutS (fun s=>s=⟨[(3,.one (.c (.pt 0 0))),(6,.one (.c (.pt 1 0))),(7,.one (.c (.pt 2 0))),(9,.one (.c (.pt 3 0))),(23,.one (.c (dB o4)))],[some (.box [dI x0.Rev,dI x0.Floor,dI x0.NextUid,dM (x0.Base.map eObject),dM (x0.Objects.map eObject),dM (x0.History.map eChange)]),some (.box [dI 0,dI 0,dI 0,dN,dN,dN]),some (.box [dS ((⟨#[]⟩:ByteArray)),dS ((⟨#[]⟩:ByteArray)),dS ((⟨#[]⟩:ByteArray)),dI 0,dI 0,dI 0,dI 0,dB false,dI 0,dN,dN,dN,dN,dI 0,dI 0,dS ((⟨#[]⟩:ByteArray)),dN,dN,dI 0,dI 0,dS ((⟨#[]⟩:ByteArray)),dN,dN]),some (.box [dS t1.1,dS t1.2.1,dS t1.2.2.1,dI t1.2.2.2.1,dI t1.2.2.2.2.1,dI t1.2.2.2.2.2.1,dI t1.2.2.2.2.2.2.1,dB t1.2.2.2.2.2.2.2.1,dI t1.2.2.2.2.2.2.2.2.1,.own 4 0 0 (t1.2.2.2.2.2.2.2.2.2.1.length) none,.own 5 0 0 (t1.2.2.2.2.2.2.2.2.2.2.1.length) none,.own 6 0 0 (t1.2.2.2.2.2.2.2.2.2.2.2.1.length) none,.own 7 0 0 (t1.2.2.2.2.2.2.2.2.2.2.2.2.1.length) none,dI t1.2.2.2.2.2.2.2.2.2.2.2.2.2.1,dI t1.2.2.2.2.2.2.2.2.2.2.2.2.2.2.1,dS t1.2.2.2.2.2.2.2.2.2.2.2.2.2.2.2.1,dM (t1.2.2.2.2.2.2.2.2.2.2.2.2.2.2.2.2.1.map eTValue),dM (t1.2.2.2.2.2.2.2.2.2.2.2.2.2.2.2.2.2.1.map eTField),dI t1.2.2.2.2.2.2.2.2.2.2.2.2.2.2.2.2.2.2.1,dI t1.2.2.2.2.2.2.2.2.2.2.2.2.2.2.2.2.2.2.2.1,dS t1.2.2.2.2.2.2.2.2.2.2.2.2.2.2.2.2.2.2.2.2.1,dM (t1.2.2.2.2.2.2.2.2.2.2.2.2.2.2.2.2.2.2.2.2.2.1.map eTValue),dM (t1.2.2.2.2.2.2.2.2.2.2.2.2.2.2.2.2.2.2.2.2.2.2.1.map eTField)]),some (.arr 0 2 (t1.2.2.2.2.2.2.2.2.2.1.map eLabel)),some (.arr 0 5 (t1.2.2.2.2.2.2.2.2.2.2.1.map eOwner)),some (.arr 0 1 (t1.2.2.2.2.2.2.2.2.2.2.2.1.map eS)),some (.arr 0 2 (t1.2.2.2.2.2.2.2.2.2.2.2.2.1.map eManager))]⟩) ?_ ?_
 ·have h:=ho
  clear ho
  refine ww ?_
  refine guardSh h (fun g5 h=>?_) (fun g5 h=>?_)
  ·refine ww ?_
   cases h
   exact eM [some 0,some 1,some 2,some 7,some 3,some 4,some 5,some 6] rfl
  refine ww ?_
  cases h
  exact eM [some 0,some 1,some 2,some 7,some 3,some 4,some 5,some 6] rfl
 rintro _ rfl
 clear ho
 refine ww ?_
 refine condBh h (fun c6 h=>?_) (fun c6 h=>?_)
 ·refine ww ?_
  obtain⟨t7,ht7,h⟩:=bi h
  refine cN [] (F60_ok ht7) trivial (ww ?_)
  cases h
  exact eF [some 8,some 9,some 10]
 refine ww ?_
 refine condSh h (fun c8 h=>?_) (fun c8 h=>?_)
 ·refine ww ?_
  obtain⟨t9,ht9,h⟩:=bi h
  refine cN [] (F60_ok ht9) trivial (ww ?_)
  cases h
  exact eF [some 8,some 9,some 10]
 refine ww ?_
 obtain⟨o10,ho,h⟩:=bi h
 refine cutS (fun s=>s=⟨[(3,.one (.c (.pt 0 0))),(6,.one (.c (.pt 1 0))),(7,.one (.c (.pt 2 0))),(9,.one (.c (.pt 3 0)))],[some (.box [dI x0.Rev,dI x0.Floor,dI x0.NextUid,dM (x0.Base.map eObject),dM (x0.Objects.map eObject),dM (x0.History.map eChange)]),some (.box [dI 0,dI 0,dI 0,dN,dN,dN]),some (.box [dS ((⟨#[]⟩:ByteArray)),dS ((⟨#[]⟩:ByteArray)),dS ((⟨#[]⟩:ByteArray)),dI 0,dI 0,dI 0,dI 0,dB false,dI 0,dN,dN,dN,dN,dI 0,dI 0,dS ((⟨#[]⟩:ByteArray)),dN,dN,dI 0,dI 0,dS ((⟨#[]⟩:ByteArray)),dN,dN]),some (.box [dS t1.1,dS t1.2.1,dS t1.2.2.1,dI t1.2.2.2.1,dI ((IntKind.i64.wrap (x0.Rev+1))),dI t1.2.2.2.2.2.1,dI t1.2.2.2.2.2.2.1,dB t1.2.2.2.2.2.2.2.1,dI t1.2.2.2.2.2.2.2.2.1,dM (t1.2.2.2.2.2.2.2.2.2.1.map eLabel),dM (t1.2.2.2.2.2.2.2.2.2.2.1.map eOwner),dM (t1.2.2.2.2.2.2.2.2.2.2.2.1.map eS),dM (t1.2.2.2.2.2.2.2.2.2.2.2.2.1.map eManager),dI t1.2.2.2.2.2.2.2.2.2.2.2.2.2.1,dI t1.2.2.2.2.2.2.2.2.2.2.2.2.2.2.1,dS t1.2.2.2.2.2.2.2.2.2.2.2.2.2.2.2.1,dM (t1.2.2.2.2.2.2.2.2.2.2.2.2.2.2.2.2.1.map eTValue),dM (t1.2.2.2.2.2.2.2.2.2.2.2.2.2.2.2.2.2.1.map eTField),dI t1.2.2.2.2.2.2.2.2.2.2.2.2.2.2.2.2.2.2.1,dI t1.2.2.2.2.2.2.2.2.2.2.2.2.2.2.2.2.2.2.2.1,dS t1.2.2.2.2.2.2.2.2.2.2.2.2.2.2.2.2.2.2.2.2.1,dM (t1.2.2.2.2.2.2.2.2.2.2.2.2.2.2.2.2.2.2.2.2.2.1.map eTValue),dM (t1.2.2.2.2.2.2.2.2.2.2.2.2.2.2.2.2.2.2.2.2.2.2.1.map eTField)])]⟩) ?_ ?_
 ·have h:=ho
  clear ho
  refine ww ?_
  cases h
  exact eM [some 0,some 1,some 2,some 3] rfl
 rintro _ rfl
 clear ho
 refine ww ?_
 obtain⟨t11,ht11,h⟩:=bi h
 refine cN [] (F93_ok ht11) trivial (ww ?_)
 refine kD_new (by simp[wrs,allW,hset]) (ww ?_)
 cases h
 exact eF [some 4,some 5,some 6]
def F30:Option (Int×Int×Int×(List Object)×(List Object)×(List Change)):=(F32).bind fun t1=>(F64 ((⟨#[97]⟩:ByteArray)) ((⟨#[120]⟩:ByteArray))).bind fun t2=>(F63 ((⟨0,0,1,[],[],[]⟩:TStore)) ((⟨(⟨(⟨#[80,111,100]⟩:ByteArray),(⟨#[110]⟩:ByteArray),((⟨#[97]⟩:ByteArray)),0,0,0,0,false,0,[(⟨(⟨#[97,112,112]⟩:ByteArray),((⟨#[120]⟩:ByteArray))⟩:Label)],[],[],[]⟩:Meta),(⟨0,0,(⟨#[]⟩:ByteArray),[],[]⟩:TValue),(⟨0,0,(⟨#[]⟩:ByteArray),[],[]⟩:TValue)⟩:Object)) 1).bind fun t3=>(F63 ((⟨t3.1,t3.2.1,t3.2.2.1,t3.2.2.2.1,t3.2.2.2.2.1,t3.2.2.2.2.2.1⟩:TStore)) ((⟨(⟨(⟨#[78,111,100,101]⟩:ByteArray),(⟨#[]⟩:ByteArray),(⟨#[109]⟩:ByteArray),0,0,0,0,false,0,[],[],[],[]⟩:Meta),(⟨0,0,(⟨#[]⟩:ByteArray),[],[]⟩:TValue),(⟨0,0,(⟨#[]⟩:ByteArray),[],[]⟩:TValue)⟩:Object)) 1).bind fun t4=>(F64 ((⟨#[97]⟩:ByteArray)) ((⟨#[121]⟩:ByteArray))).bind fun t5=>(F65 ((⟨t4.1,t4.2.1,t4.2.2.1,t4.2.2.2.1,t4.2.2.2.2.1,t4.2.2.2.2.2.1⟩:TStore)) ((⟨(⟨(⟨#[80,111,100]⟩:ByteArray),(⟨#[110]⟩:ByteArray),((⟨#[97]⟩:ByteArray)),0,0,0,0,false,0,[(⟨(⟨#[97,112,112]⟩:ByteArray),((⟨#[121]⟩:ByteArray))⟩:Label)],[],[],[]⟩:Meta),(⟨0,0,(⟨#[]⟩:ByteArray),[],[]⟩:TValue),(⟨0,0,(⟨#[]⟩:ByteArray),[],[]⟩:TValue)⟩:Object))).bind fun t6=>(F66 ((⟨t6.1,t6.2.1,t4.2.2.1,t6.2.2.1,t6.2.2.2.1,t6.2.2.2.2.1⟩:TStore)) ((⟨#[80,111,100,47,110,47,97]⟩:ByteArray)) 0).bind fun t7=>some ((t7.1,t7.2.1,t4.2.2.1,t7.2.2.1,t7.2.2.2.1,t7.2.2.2.2.1))
def a30:AFn:=⟨33,[(.cell 0 (some 6))],
 (.seq (.reg [zl 0 (.zbox [dI 0,dI 0,dI 0,dN,dN,dN]) [] []])
 (.seq (.reg [sq 5 (.call 32 []),
sq 6 (.call 64 [(kS ⟨#[97]⟩),(kS ⟨#[120]⟩)]),
sq 7 (.call 63 [(.t 5),(.t 6),(kI 1)]),
sq 4 (.mv (.t 7)),
sq 8 (.ext (.t 4) 0),
sq 9 (.ext (.t 4) 1),
sq 10 (.ext (.t 4) 2),
sq 1 (.zbox [dI 0,dI 0,dI 0,dN,dN,dN]),
sq 2 (.zbox [dS ⟨#[]⟩,dS ⟨#[]⟩,dS ⟨#[]⟩,dI 0,dI 0,dI 0,dI 0,dB false,dI 0,dN,dN,dN,dN,dI 0,dI 0,dS ⟨#[]⟩,dN,dN,dI 0,dI 0,dS ⟨#[]⟩,dN,dN]),
su (.store 6 (.t 1) (.t 8)),
su (.store 23 (.t 2) (.t 9)),
sq 3 (.mv (.t 10))])
 (.seq (.reg [sq 12 (.load (some 6) (.t 1)),
sq 13 (.build [dS ⟨#[]⟩,dS ⟨#[]⟩,dS ⟨#[]⟩,dI 0,dI 0,dI 0,dI 0,dB false,dI 0,dN,dN,dN,dN] [(0,1,(kS ⟨#[78,111,100,101]⟩)),(2,1,(kS ⟨#[109]⟩))]),
sq 14 (.build [dS ⟨#[]⟩,dS ⟨#[]⟩,dS ⟨#[]⟩,dI 0,dI 0,dI 0,dI 0,dB false,dI 0,dN,dN,dN,dN,dI 0,dI 0,dS ⟨#[]⟩,dN,dN,dI 0,dI 0,dS ⟨#[]⟩,dN,dN] [(0,13,(.t 13))]),
sq 15 (.call 63 [(.t 12),(.t 14),(kI 1)]),
sq 11 (.mv (.t 15)),
sq 16 (.ext (.t 11) 0),
sq 17 (.ext (.t 11) 1),
sq 18 (.ext (.t 11) 2),
su (.store 6 (.t 1) (.t 16))])
 (.seq (.regd [sq 20 (.load (some 6) (.t 1)),
zl 21 (.call 64 [(kS ⟨#[97]⟩),(kS ⟨#[121]⟩)]) [] [1],
zl 22 (.call 65 [(.t 20),(.t 21)]) [0,1] [],
sd 19 (.mv (.t 22)) [0,1,2],
sd 23 (.ext (.t 19) 0) [0,1,2,3],
sd 24 (.ext (.t 19) 1) [0,1,2,3],
sd 25 (.ext (.t 19) 2) [0,1,2,3],
⟨none,none,.store 6 (.t 1) (.t 23),[0,1,2,3,4],(.lone [])⟩])
 (.seq (.reg [sq 27 (.load (some 6) (.t 1)),
sq 28 (.call 66 [(.t 27),(kS ⟨#[80,111,100,47,110,47,97]⟩),(kI 0)]),
sq 26 (.mv (.t 28)),
sq 29 (.ext (.t 26) 0),
sq 30 (.ext (.t 26) 1),
sq 31 (.ext (.t 26) 2),
su (.store 6 (.t 1) (.t 29))])
 (.seq (.reg [sq 32 (.load (some 6) (.t 1)),
⟨none,none,.store 6 (.t 0) (.t 32),[],(.lone [1])⟩])
 .ret))))))⟩
theorem a30_ok:afn Tryz.prog 30=some a30.er:=by kernel_rfl
theorem F30_ok{r}(h:F30=some r):CallD Tryz.prog 30 [] [] (tupV [.agg [dI r.1,dI r.2.1,dI r.2.2.1,.own 0 0 0 (r.2.2.2.1.length) none,.own 1 0 0 (r.2.2.2.2.1.length) none,.own 2 0 0 (r.2.2.2.2.2.length) none]]) [some (.arr 0 23 (r.2.2.2.1.map eObject)),some (.arr 0 23 (r.2.2.2.2.1.map eObject)),some (.arr 0 25 (r.2.2.2.2.2.map eChange))]:=by
 refine callS a30_ok (by simp[a30]) ?_
 rw[F30]at h
 simp only[a30,VW.down,Nat.reduceEqDiff,reduceCtorEq,Nat.reduceAdd,Nat.reduceLeDiff,Nat.reduceLT,Nat.reduceBEq,Nat.reduceSub,EE.down]
 obtain⟨t1,ht1,h⟩:=bi h
 refine cN [] (F32_ok ht1) trivial (ww ?_)
 obtain⟨t2,ht2,h⟩:=bi h
 refine cN [] (F64_ok ht2) trivial (ww ?_)
 obtain⟨t3,ht3,h⟩:=bi h
 refine callX_gen (as1:=[.agg [dI 0,dI 0,dI 1,dM (([]:List Object).map eObject),dM (([]:List Object).map eObject),dM (([]:List Change).map eChange)],.agg [dS ((⟨#[80,111,100]⟩:ByteArray)),dS ((⟨#[110]⟩:ByteArray)),dS (((⟨#[97]⟩:ByteArray))),dI 0,dI 0,dI 0,dI 0,dB false,dI 0,dM (([(⟨(⟨#[97,112,112]⟩:ByteArray),((⟨#[120]⟩:ByteArray))⟩:Label)]).map eLabel),dM (([]:List Owner).map eOwner),dM (([]:List ByteArray).map eS),dM (([]:List Manager).map eManager),dI 0,dI 0,dS ((⟨#[]⟩:ByteArray)),dM (([]:List TValue).map eTValue),dM (([]:List TField).map eTField),dI 0,dI 0,dS ((⟨#[]⟩:ByteArray)),dM (([]:List TValue).map eTValue),dM (([]:List TField).map eTField)],.c (dI 1)]) [(1,.arr 1 2 [])] [some 0,none] [] (F63_ok ht3) ⟨?_,rfl,?_⟩ ?_ ?_ ?_ ?_ ?_ ?_ ?_ ?_
 ·simp only[ZZ.down,Nat.reduceEqDiff,reduceCtorEq,Nat.reduceAdd,Nat.reduceLeDiff,Nat.reduceLT,Nat.reduceBNe,EE.down]
 ·simp only[ZZ.down,Nat.reduceEqDiff,reduceCtorEq,Nat.reduceAdd,Nat.reduceLeDiff,Nat.reduceLT,Nat.reduceBNe,EE.down]
 ·simp only[ZZ.down,Nat.reduceEqDiff,reduceCtorEq,Nat.reduceAdd,Nat.reduceLeDiff,Nat.reduceLT,Nat.reduceBNe,EE.down]
 ·rfl
 ·rfl
 ·simp[liveAll,A1.live,C.live]
 ·rfl
 ·decide
 ·exact trivial
 refine ww ?_
 obtain⟨t4,ht4,h⟩:=bi h
 refine callX_gen (as1:=[.agg [dI t3.1,dI t3.2.1,dI t3.2.2.1,dM (t3.2.2.2.1.map eObject),dM (t3.2.2.2.2.1.map eObject),dM (t3.2.2.2.2.2.1.map eChange)],.agg [dS ((⟨#[78,111,100,101]⟩:ByteArray)),dS ((⟨#[]⟩:ByteArray)),dS ((⟨#[109]⟩:ByteArray)),dI 0,dI 0,dI 0,dI 0,dB false,dI 0,dM [],dM [],dM [],dM [],dI 0,dI 0,dS ((⟨#[]⟩:ByteArray)),dM [],dM [],dI 0,dI 0,dS ((⟨#[]⟩:ByteArray)),dM [],dM []],.c (dI 1)]) [(2,.arr 1 23 []),(3,.arr 1 23 []),(4,.arr 1 25 []),(5,.box [dI t3.1,dI t3.2.1,dI t3.2.2.1,.own 2 0 0 0 (some 0),.own 3 0 0 0 (some 0),.own 4 0 0 0 (some 0)])] [some 0,some 1,none,none,none,some 5,some 6] [] (F63_ok ht4) ⟨?_,rfl,?_⟩ ?_ ?_ ?_ ?_ ?_ ?_ ?_ ?_
 ·simp only[ZZ.down,Nat.reduceEqDiff,reduceCtorEq,Nat.reduceAdd,Nat.reduceLeDiff,Nat.reduceLT,Nat.reduceBNe,EE.down]
 ·simp only[ZZ.down,Nat.reduceEqDiff,reduceCtorEq,Nat.reduceAdd,Nat.reduceLeDiff,Nat.reduceLT,Nat.reduceBNe,EE.down]
 ·simp only[ZZ.down,Nat.reduceEqDiff,reduceCtorEq,Nat.reduceAdd,Nat.reduceLeDiff,Nat.reduceLT,Nat.reduceBNe,EE.down]
 ·rfl
 ·rfl
 ·simp[liveAll,A1.live,C.live]
 ·rfl
 ·decide
 ·exact trivial
 refine ww ?_
 obtain⟨t5,ht5,h⟩:=bi h
 refine cN [] (F64_ok ht5) trivial (ww ?_)
 obtain⟨t6,ht6,h⟩:=bi h
 refine callX_gen (as1:=[.agg [dI t4.1,dI t4.2.1,dI t4.2.2.1,dM (t4.2.2.2.1.map eObject),dM (t4.2.2.2.2.1.map eObject),dM (t4.2.2.2.2.2.1.map eChange)],.agg [dS ((⟨#[80,111,100]⟩:ByteArray)),dS ((⟨#[110]⟩:ByteArray)),dS (((⟨#[97]⟩:ByteArray))),dI 0,dI 0,dI 0,dI 0,dB false,dI 0,dM (([(⟨(⟨#[97,112,112]⟩:ByteArray),((⟨#[121]⟩:ByteArray))⟩:Label)]).map eLabel),dM (([]:List Owner).map eOwner),dM (([]:List ByteArray).map eS),dM (([]:List Manager).map eManager),dI 0,dI 0,dS ((⟨#[]⟩:ByteArray)),dM (([]:List TValue).map eTValue),dM (([]:List TField).map eTField),dI 0,dI 0,dS ((⟨#[]⟩:ByteArray)),dM (([]:List TValue).map eTValue),dM (([]:List TField).map eTField)]]) [(7,.arr 1 23 []),(8,.arr 1 23 []),(9,.arr 1 25 []),(10,.arr 1 2 []),(5,.box [dI t4.1,dI t4.2.1,dI t4.2.2.1,.own 7 0 0 0 (some 0),.own 8 0 0 0 (some 0),.own 9 0 0 0 (some 0)])] [some 0,some 1,some 2,some 3,some 4,some 5,some 6,none,none,none,none] [] (F65_ok ht6) ⟨?_,rfl,?_⟩ ?_ ?_ ?_ ?_ ?_ ?_ ?_ ?_
 ·simp only[ZZ.down,Nat.reduceEqDiff,reduceCtorEq,Nat.reduceAdd,Nat.reduceLeDiff,Nat.reduceLT,Nat.reduceBNe,EE.down]
 ·simp only[ZZ.down,Nat.reduceEqDiff,reduceCtorEq,Nat.reduceAdd,Nat.reduceLeDiff,Nat.reduceLT,Nat.reduceBNe,EE.down]
 ·simp only[ZZ.down,Nat.reduceEqDiff,reduceCtorEq,Nat.reduceAdd,Nat.reduceLeDiff,Nat.reduceLT,Nat.reduceBNe,EE.down]
 ·rfl
 ·rfl
 ·simp[liveAll,A1.live,C.live]
 ·rfl
 ·decide
 ·exact trivial
 refine ww ?_
 obtain⟨t7,ht7,h⟩:=bi h
 refine callX_gen (as1:=[.agg [dI t6.1,dI t6.2.1,dI t4.2.2.1,dM (t6.2.2.1.map eObject),dM (t6.2.2.2.1.map eObject),dM (t6.2.2.2.2.1.map eChange)],.c (dS ((⟨#[80,111,100,47,110,47,97]⟩:ByteArray))),.c (dI 0)]) [(11,.arr 1 23 []),(12,.arr 1 23 []),(13,.arr 1 25 []),(5,.box [dI t6.1,dI t6.2.1,dI t4.2.2.1,.own 11 0 0 0 (some 0),.own 12 0 0 0 (some 0),.own 13 0 0 0 (some 0)])] [some 0,some 1,some 2,some 3,some 4,some 5,some 6,some 7,some 8,some 9,some 10,none,none,none] [] (F66_ok ht7) ⟨?_,rfl,?_⟩ ?_ ?_ ?_ ?_ ?_ ?_ ?_ ?_
 ·simp only[ZZ.down,Nat.reduceEqDiff,reduceCtorEq,Nat.reduceAdd,Nat.reduceLeDiff,Nat.reduceLT,Nat.reduceBNe,EE.down]
 ·simp only[ZZ.down,Nat.reduceEqDiff,reduceCtorEq,Nat.reduceAdd,Nat.reduceLeDiff,Nat.reduceLT,Nat.reduceBNe,EE.down]
 ·simp only[ZZ.down,Nat.reduceEqDiff,reduceCtorEq,Nat.reduceAdd,Nat.reduceLeDiff,Nat.reduceLT,Nat.reduceBNe,EE.down]
 ·rfl
 ·rfl
 ·simp[liveAll,A1.live,C.live]
 ·rfl
 ·decide
 ·exact trivial
 refine ww ?_
 cases h
 exact eF [some 14,some 15,some 16]
def F33(x0:TStore)(x1:TOp):Option (Int×Int×Int×(List Object)×(List Object)×(List Change)×Object×Int):=(F67 x0 x1).bind fun t1=>(if x1.Kind=1 then(F63 x0 ((⟨(⟨x1.O.Meta.Kind,x1.O.Meta.Namespace,x1.O.Meta.Name,x1.O.Meta.Uid,t1.1,x1.O.Meta.Generation,x1.O.Meta.Created,x1.O.Meta.Deleting,x1.O.Meta.DeleteAt,x1.O.Meta.Labels,x1.O.Meta.Owners,x1.O.Meta.Finalizers,x1.O.Meta.Managers⟩:Meta),x1.O.Spec,x1.O.Status⟩:Object)) x1.Now).bind fun t3=>some ((t3.1,t3.2.1,t3.2.2.1,t3.2.2.2.1,t3.2.2.2.2.1,t3.2.2.2.2.2.1,(⟨(⟨(t3.2.2.2.2.2.2.1).Meta.Kind,(t3.2.2.2.2.2.2.1).Meta.Namespace,(t3.2.2.2.2.2.2.1).Meta.Name,(t3.2.2.2.2.2.2.1).Meta.Uid,(t3.2.2.2.2.2.2.1).Meta.Version,(t3.2.2.2.2.2.2.1).Meta.Generation,(t3.2.2.2.2.2.2.1).Meta.Created,(t3.2.2.2.2.2.2.1).Meta.Deleting,(t3.2.2.2.2.2.2.1).Meta.DeleteAt,(t3.2.2.2.2.2.2.1).Meta.Labels,(t3.2.2.2.2.2.2.1).Meta.Owners,(t3.2.2.2.2.2.2.1).Meta.Finalizers,(t3.2.2.2.2.2.2.1).Meta.Managers⟩:Meta),(⟨(t3.2.2.2.2.2.2.1).Spec.Kind,(t3.2.2.2.2.2.2.1).Spec.N,(t3.2.2.2.2.2.2.1).Spec.S,(t3.2.2.2.2.2.2.1).Spec.List_,(t3.2.2.2.2.2.2.1).Spec.Fields⟩:TValue),(⟨(t3.2.2.2.2.2.2.1).Status.Kind,(t3.2.2.2.2.2.2.1).Status.N,(t3.2.2.2.2.2.2.1).Status.S,(t3.2.2.2.2.2.2.1).Status.List_,(t3.2.2.2.2.2.2.1).Status.Fields⟩:TValue)⟩:Object),t3.2.2.2.2.2.2.2))else(if x1.Kind=2 then(F65 x0 ((⟨(⟨x1.O.Meta.Kind,x1.O.Meta.Namespace,x1.O.Meta.Name,x1.O.Meta.Uid,t1.1,x1.O.Meta.Generation,x1.O.Meta.Created,x1.O.Meta.Deleting,x1.O.Meta.DeleteAt,x1.O.Meta.Labels,x1.O.Meta.Owners,x1.O.Meta.Finalizers,x1.O.Meta.Managers⟩:Meta),x1.O.Spec,x1.O.Status⟩:Object))).bind fun t5=>some ((t5.1,t5.2.1,x0.NextUid,t5.2.2.1,t5.2.2.2.1,t5.2.2.2.2.1,(⟨(⟨t5.2.2.2.2.2.1,t5.2.2.2.2.2.2.1,t5.2.2.2.2.2.2.2.1,t5.2.2.2.2.2.2.2.2.1,t5.2.2.2.2.2.2.2.2.2.1,t5.2.2.2.2.2.2.2.2.2.2.1,t5.2.2.2.2.2.2.2.2.2.2.2.1,t5.2.2.2.2.2.2.2.2.2.2.2.2.1,t5.2.2.2.2.2.2.2.2.2.2.2.2.2.1,t5.2.2.2.2.2.2.2.2.2.2.2.2.2.2.1,t5.2.2.2.2.2.2.2.2.2.2.2.2.2.2.2.1,t5.2.2.2.2.2.2.2.2.2.2.2.2.2.2.2.2.1,t5.2.2.2.2.2.2.2.2.2.2.2.2.2.2.2.2.2.1⟩:Meta),(⟨t5.2.2.2.2.2.2.2.2.2.2.2.2.2.2.2.2.2.2.1,t5.2.2.2.2.2.2.2.2.2.2.2.2.2.2.2.2.2.2.2.1,t5.2.2.2.2.2.2.2.2.2.2.2.2.2.2.2.2.2.2.2.2.1,t5.2.2.2.2.2.2.2.2.2.2.2.2.2.2.2.2.2.2.2.2.2.1,t5.2.2.2.2.2.2.2.2.2.2.2.2.2.2.2.2.2.2.2.2.2.2.1⟩:TValue),(⟨t5.2.2.2.2.2.2.2.2.2.2.2.2.2.2.2.2.2.2.2.2.2.2.2.1,t5.2.2.2.2.2.2.2.2.2.2.2.2.2.2.2.2.2.2.2.2.2.2.2.2.1,t5.2.2.2.2.2.2.2.2.2.2.2.2.2.2.2.2.2.2.2.2.2.2.2.2.2.1,t5.2.2.2.2.2.2.2.2.2.2.2.2.2.2.2.2.2.2.2.2.2.2.2.2.2.2.1,t5.2.2.2.2.2.2.2.2.2.2.2.2.2.2.2.2.2.2.2.2.2.2.2.2.2.2.2.1⟩:TValue)⟩:Object),t5.2.2.2.2.2.2.2.2.2.2.2.2.2.2.2.2.2.2.2.2.2.2.2.2.2.2.2.2))else(if x1.Kind=3 then(F66 x0 x1.Key t1.2).bind fun t7=>some ((t7.1,t7.2.1,x0.NextUid,t7.2.2.1,t7.2.2.2.1,t7.2.2.2.2.1,(⟨(⟨(t7.2.2.2.2.2.1).Meta.Kind,(t7.2.2.2.2.2.1).Meta.Namespace,(t7.2.2.2.2.2.1).Meta.Name,(t7.2.2.2.2.2.1).Meta.Uid,(t7.2.2.2.2.2.1).Meta.Version,(t7.2.2.2.2.2.1).Meta.Generation,(t7.2.2.2.2.2.1).Meta.Created,(t7.2.2.2.2.2.1).Meta.Deleting,(t7.2.2.2.2.2.1).Meta.DeleteAt,(t7.2.2.2.2.2.1).Meta.Labels,(t7.2.2.2.2.2.1).Meta.Owners,(t7.2.2.2.2.2.1).Meta.Finalizers,(t7.2.2.2.2.2.1).Meta.Managers⟩:Meta),(⟨(t7.2.2.2.2.2.1).Spec.Kind,(t7.2.2.2.2.2.1).Spec.N,(t7.2.2.2.2.2.1).Spec.S,(t7.2.2.2.2.2.1).Spec.List_,(t7.2.2.2.2.2.1).Spec.Fields⟩:TValue),(⟨(t7.2.2.2.2.2.1).Status.Kind,(t7.2.2.2.2.2.1).Status.N,(t7.2.2.2.2.2.1).Status.S,(t7.2.2.2.2.2.1).Status.List_,(t7.2.2.2.2.2.1).Status.Fields⟩:TValue)⟩:Object),t7.2.2.2.2.2.2))else(F28 x0 x1.Rev).bind fun t8=>some ((x0.Rev,t8.1,x0.NextUid,t8.2.1,t8.2.2.1,t8.2.2.2.1,(⟨(⟨(⟨#[]⟩:ByteArray),(⟨#[]⟩:ByteArray),(⟨#[]⟩:ByteArray),0,0,0,0,false,0,[],[],[],[]⟩:Meta),(⟨0,0,(⟨#[]⟩:ByteArray),[],[]⟩:TValue),(⟨0,0,(⟨#[]⟩:ByteArray),[],[]⟩:TValue)⟩:Object),t8.2.2.2.2)))))
def a33:AFn:=⟨57,[(.cell 4 (some 6)),(.cell 5 (some 23)),(.tmp 6)],
 (.seq (.reg [sq 2 (.box (.t 0)),
sq 3 (.box (.t 1)),
sq 4 (.zbox [dI 0,dI 0,dI 0,dN,dN,dN]),
sq 5 (.zbox [dS ⟨#[]⟩,dS ⟨#[]⟩,dS ⟨#[]⟩,dI 0,dI 0,dI 0,dI 0,dB false,dI 0,dN,dN,dN,dN,dI 0,dI 0,dS ⟨#[]⟩,dN,dN,dI 0,dI 0,dS ⟨#[]⟩,dN,dN]),
sq 6 (.mv (kI 0))])
 (.seq (.reg [sq 12 (.load (some 6) (.t 2)),
sq 13 (.load (some 28) (.t 3)),
sq 14 (.call 67 [(.t 12),(.t 13)]),
sq 11 (.mv (.t 14)),
sq 15 (.ext (.t 11) 0),
sq 16 (.ext (.t 11) 1),
sq 7 (.zbox [dS ⟨#[]⟩,dS ⟨#[]⟩,dS ⟨#[]⟩,dI 0,dI 0,dI 0,dI 0,dB false,dI 0,dN,dN,dN,dN,dI 0,dI 0,dS ⟨#[]⟩,dN,dN,dI 0,dI 0,dS ⟨#[]⟩,dN,dN]),
su (.store 23 (.t 7) (.t 15)),
sq 8 (.mv (.t 16))])
 (.seq (.seq (.reg [sq 17 (.fieldA 0 (.t 3)),
sq 18 (.load none (.t 17))])
 (.block 0 (.seq (.reg [sq 20 (.bin .eql (.t 18) (kI 1)),
sq 19 (.mv (.t 20))])
 (.cond (.t 19)
 (.seq (.reg [sq 21 (.load (some 6) (.t 2)),
sq 22 (.load (some 23) (.t 7)),
sq 23 (.fieldA 26 (.t 3)),
sq 24 (.load none (.t 23)),
sq 25 (.call 63 [(.t 21),(.t 22),(.t 24)]),
sq 26 (.ext (.t 25) 0),
sq 27 (.ext (.t 25) 1),
sq 28 (.ext (.t 25) 2),
su (.store 6 (.t 4) (.t 26)),
su (.store 23 (.t 5) (.t 27)),
sq 6 (.mv (.t 28))])
 .ret)
 (.seq (.reg [sq 30 (.bin .eql (.t 18) (kI 2)),
sq 29 (.mv (.t 30))])
 (.cond (.t 29)
 (.seq (.reg [sq 31 (.load (some 6) (.t 2)),
sq 32 (.load (some 23) (.t 7)),
sq 33 (.call 65 [(.t 31),(.t 32)]),
sq 34 (.ext (.t 33) 0),
sq 35 (.ext (.t 33) 1),
sq 36 (.ext (.t 33) 2),
su (.store 6 (.t 4) (.t 34)),
su (.store 23 (.t 5) (.t 35)),
sq 6 (.mv (.t 36))])
 .ret)
 (.seq (.reg [sq 38 (.bin .eql (.t 18) (kI 3)),
sq 37 (.mv (.t 38))])
 (.cond (.t 37)
 (.seq (.reg [sq 39 (.load (some 6) (.t 2)),
sq 40 (.fieldA 24 (.t 3)),
sq 41 (.load none (.t 40)),
sq 42 (.mv (.t 8)),
sq 43 (.call 66 [(.t 39),(.t 41),(.t 42)]),
sq 44 (.ext (.t 43) 0),
sq 45 (.ext (.t 43) 1),
sq 46 (.ext (.t 43) 2),
su (.store 6 (.t 4) (.t 44)),
su (.store 23 (.t 5) (.t 45)),
sq 6 (.mv (.t 46))])
 .ret)
 .skip))))))))
 (.seq (.reg [sq 48 (.load (some 6) (.t 2)),
sq 49 (.fieldA 27 (.t 3)),
sq 50 (.load none (.t 49)),
sq 51 (.call 28 [(.t 48),(.t 50)]),
sq 47 (.mv (.t 51)),
sq 52 (.ext (.t 47) 0),
sq 53 (.ext (.t 47) 1),
sq 9 (.zbox [dI 0,dI 0,dI 0,dN,dN,dN]),
su (.store 6 (.t 9) (.t 52)),
sq 10 (.mv (.t 53))])
 (.seq (.reg [sq 54 (.load (some 6) (.t 9)),
sq 55 (.build [dS ⟨#[]⟩,dS ⟨#[]⟩,dS ⟨#[]⟩,dI 0,dI 0,dI 0,dI 0,dB false,dI 0,dN,dN,dN,dN,dI 0,dI 0,dS ⟨#[]⟩,dN,dN,dI 0,dI 0,dS ⟨#[]⟩,dN,dN] []),
sq 56 (.mv (.t 10)),
su (.store 6 (.t 4) (.t 54)),
su (.store 23 (.t 5) (.t 55)),
sq 6 (.mv (.t 56))])
 .ret)))))⟩
theorem a33_ok:afn Tryz.prog 33=some a33.er:=by kernel_rfl
theorem F33_ok{x0 x1 r}(h:F33 x0 x1=some r):CallD Tryz.prog 33 [.agg [dI x0.Rev,dI x0.Floor,dI x0.NextUid,dM (x0.Base.map eObject),dM (x0.Objects.map eObject),dM (x0.History.map eChange)],.agg [dI x1.Kind,dS x1.O.Meta.Kind,dS x1.O.Meta.Namespace,dS x1.O.Meta.Name,dI x1.O.Meta.Uid,dI x1.O.Meta.Version,dI x1.O.Meta.Generation,dI x1.O.Meta.Created,dB x1.O.Meta.Deleting,dI x1.O.Meta.DeleteAt,dM (x1.O.Meta.Labels.map eLabel),dM (x1.O.Meta.Owners.map eOwner),dM (x1.O.Meta.Finalizers.map eS),dM (x1.O.Meta.Managers.map eManager),dI x1.O.Spec.Kind,dI x1.O.Spec.N,dS x1.O.Spec.S,dM (x1.O.Spec.List_.map eTValue),dM (x1.O.Spec.Fields.map eTField),dI x1.O.Status.Kind,dI x1.O.Status.N,dS x1.O.Status.S,dM (x1.O.Status.List_.map eTValue),dM (x1.O.Status.Fields.map eTField),dS x1.Key,dI x1.Version,dI x1.Now,dI x1.Rev]] [] (tupV [.agg [dI r.1,dI r.2.1,dI r.2.2.1,.own 0 0 0 (r.2.2.2.1.length) none,.own 1 0 0 (r.2.2.2.2.1.length) none,.own 2 0 0 (r.2.2.2.2.2.1.length) none],.agg [dS ((r.2.2.2.2.2.2.1).Meta.Kind),dS ((r.2.2.2.2.2.2.1).Meta.Namespace),dS ((r.2.2.2.2.2.2.1).Meta.Name),dI ((r.2.2.2.2.2.2.1).Meta.Uid),dI ((r.2.2.2.2.2.2.1).Meta.Version),dI ((r.2.2.2.2.2.2.1).Meta.Generation),dI ((r.2.2.2.2.2.2.1).Meta.Created),dB ((r.2.2.2.2.2.2.1).Meta.Deleting),dI ((r.2.2.2.2.2.2.1).Meta.DeleteAt),dM (((r.2.2.2.2.2.2.1).Meta.Labels).map eLabel),dM (((r.2.2.2.2.2.2.1).Meta.Owners).map eOwner),dM (((r.2.2.2.2.2.2.1).Meta.Finalizers).map eS),dM (((r.2.2.2.2.2.2.1).Meta.Managers).map eManager),dI ((r.2.2.2.2.2.2.1).Spec.Kind),dI ((r.2.2.2.2.2.2.1).Spec.N),dS ((r.2.2.2.2.2.2.1).Spec.S),dM (((r.2.2.2.2.2.2.1).Spec.List_).map eTValue),dM (((r.2.2.2.2.2.2.1).Spec.Fields).map eTField),dI ((r.2.2.2.2.2.2.1).Status.Kind),dI ((r.2.2.2.2.2.2.1).Status.N),dS ((r.2.2.2.2.2.2.1).Status.S),dM (((r.2.2.2.2.2.2.1).Status.List_).map eTValue),dM (((r.2.2.2.2.2.2.1).Status.Fields).map eTField)],.c (dI r.2.2.2.2.2.2.2)]) [some (.arr 0 23 (r.2.2.2.1.map eObject)),some (.arr 0 23 (r.2.2.2.2.1.map eObject)),some (.arr 0 25 (r.2.2.2.2.2.1.map eChange))]:=by
 refine callS a33_ok (by simp[a33]) ?_
 rw[F33]at h
 simp only[a33,VW.down,Nat.reduceEqDiff,reduceCtorEq,Nat.reduceAdd,Nat.reduceLeDiff,Nat.reduceLT,Nat.reduceBEq,Nat.reduceSub,EE.down]
 obtain⟨t1,ht1,h⟩:=bi h
 refine cN [] (F67_ok ht1) trivial (ww ?_)
 refine condSh h (fun c2 h=>?_) (fun c2 h=>?_)
 ·refine ww ?_
  obtain⟨t3,ht3,h⟩:=bi h
  refine cN [] (F63_ok ht3) trivial (ww ?_)
  cases h
  exact eF [some 5,some 6,some 7]
 refine ww ?_
 refine condSh h (fun c4 h=>?_) (fun c4 h=>?_)
 ·refine ww ?_
  obtain⟨t5,ht5,h⟩:=bi h
  refine cN [] (F65_ok ht5) trivial (ww ?_)
  cases h
  exact eF [some 5,some 6,some 7]
 refine ww ?_
 refine condSh h (fun c6 h=>?_) (fun c6 h=>?_)
 ·refine ww ?_
  obtain⟨t7,ht7,h⟩:=bi h
  refine cN [] (F66_ok ht7) trivial (ww ?_)
  cases h
  exact eF [some 5,some 6,some 7]
 refine ww ?_
 obtain⟨t8,ht8,h⟩:=bi h
 refine cN [] (F28_ok ht8) trivial (ww ?_)
 cases h
 exact eF [some 5,some 6,some 7]
end Go.Proofs.YtondgcmdhkhkkaaGreat
