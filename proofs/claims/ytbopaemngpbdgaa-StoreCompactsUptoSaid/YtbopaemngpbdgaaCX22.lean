/- Each Go function as a function over typed data, and its walk. -/
import Derived.Test.YtbopaemngpbdgaaCX
import Derived.Test.YtbopaemngpbdgaaCX7
import Derived.Test.YtbopaemngpbdgaaCX14
import Derived.Test.YtbopaemngpbdgaaCX16
import Derived.Test.YtbopaemngpbdgaaCX18
namespace Go.Proofs.Ytbopaemngpbdgaa
open Go Go.Fw Go.Shelf
set_option maxRecDepth 100000
set_option maxHeartbeats 4000000
set_option linter.unusedSimpArgs false
set_option linter.unusedVariables false
def F25(x0:TStore)(x1:Object)(x2:Int):Option (Int×Int×Int×(List Object)×(List Object)×(List Change)×Object×Int):=(F33 x1.Meta).bind fun t1=>(F51 x0.Objects t1).bind fun t2=>(((F31 x1).bind fun t4=>(if(nb t4)=true then some true else(if x2<0 then some true else some (decide (1000000000000<x2))))).bind fun o3=>(if o3=true then(F32 x0).bind fun t8=>some ((x0.Rev,x0.Floor,x0.NextUid,t8.1,t8.2.1,t8.2.2,(⟨(⟨(⟨#[]⟩:ByteArray),(⟨#[]⟩:ByteArray),(⟨#[]⟩:ByteArray),0,0,0,0,false,0,[],[],[],[]⟩:Meta),(⟨0,0,(⟨#[]⟩:ByteArray),[],[]⟩:TValue),(⟨0,0,(⟨#[]⟩:ByteArray),[],[]⟩:TValue)⟩:Object),1))else(if t2.2=true then(F32 x0).bind fun t10=>some ((x0.Rev,x0.Floor,x0.NextUid,t10.1,t10.2.1,t10.2.2,(⟨(⟨(⟨#[]⟩:ByteArray),(⟨#[]⟩:ByteArray),(⟨#[]⟩:ByteArray),0,0,0,0,false,0,[],[],[],[]⟩:Meta),(⟨0,0,(⟨#[]⟩:ByteArray),[],[]⟩:TValue),(⟨0,0,(⟨#[]⟩:ByteArray),[],[]⟩:TValue)⟩:Object),8))else(((if 500≤(x0.Objects.length:Int)then some true else(if 1000000000000000≤x0.Rev then some true else some (decide (1000000000000000≤x0.NextUid))))).bind fun o11=>(if o11=true then(F32 x0).bind fun t15=>some ((x0.Rev,x0.Floor,x0.NextUid,t15.1,t15.2.1,t15.2.2,(⟨(⟨(⟨#[]⟩:ByteArray),(⟨#[]⟩:ByteArray),(⟨#[]⟩:ByteArray),0,0,0,0,false,0,[],[],[],[]⟩:Meta),(⟨0,0,(⟨#[]⟩:ByteArray),[],[]⟩:TValue),(⟨0,0,(⟨#[]⟩:ByteArray),[],[]⟩:TValue)⟩:Object),15))else(F34 x1).bind fun t16=>((some (())).bind fun o17=>(F36 x0 1 ((⟨(⟨x1.Meta.Kind,x1.Meta.Namespace,x1.Meta.Name,x0.NextUid,(IntKind.i64.wrap (x0.Rev+1)),1,x2,false,0,t16.1,t16.2.1,t16.2.2.1,t16.2.2.2.1⟩:Meta),(⟨t16.2.2.2.2.1,t16.2.2.2.2.2.1,t16.2.2.2.2.2.2.1,t16.2.2.2.2.2.2.2.1,t16.2.2.2.2.2.2.2.2.1⟩:TValue),(⟨t16.2.2.2.2.2.2.2.2.2.1,t16.2.2.2.2.2.2.2.2.2.2.1,t16.2.2.2.2.2.2.2.2.2.2.2.1,t16.2.2.2.2.2.2.2.2.2.2.2.2.1,t16.2.2.2.2.2.2.2.2.2.2.2.2.2⟩:TValue)⟩:Object))).bind fun t18=>some ((t18.1,t18.2.1,(IntKind.i64.wrap (x0.NextUid+1)),t18.2.2.1,t18.2.2.2.1,t18.2.2.2.2,(⟨(⟨x1.Meta.Kind,x1.Meta.Namespace,x1.Meta.Name,x0.NextUid,(IntKind.i64.wrap (x0.Rev+1)),1,x2,false,0,t16.1,t16.2.1,t16.2.2.1,t16.2.2.2.1⟩:Meta),(⟨t16.2.2.2.2.1,t16.2.2.2.2.2.1,t16.2.2.2.2.2.2.1,t16.2.2.2.2.2.2.2.1,t16.2.2.2.2.2.2.2.2.1⟩:TValue),(⟨t16.2.2.2.2.2.2.2.2.2.1,t16.2.2.2.2.2.2.2.2.2.2.1,t16.2.2.2.2.2.2.2.2.2.2.2.1,t16.2.2.2.2.2.2.2.2.2.2.2.2.1,t16.2.2.2.2.2.2.2.2.2.2.2.2.2⟩:TValue)⟩:Object),0))))))))
def a25:AFn:=⟨97,[(.cell 6 (some 6)),(.cell 7 (some 23)),(.tmp 8)],
 (.seq (.reg [sq 3 (.box (.t 0)),
sq 4 (.box (.t 1)),
sq 6 (.zbox [dI 0,dI 0,dI 0,dN,dN,dN]),
sq 7 (.zbox [dS ⟨#[]⟩,dS ⟨#[]⟩,dS ⟨#[]⟩,dI 0,dI 0,dI 0,dI 0,dB false,dI 0,dN,dN,dN,dN,dI 0,dI 0,dS ⟨#[]⟩,dN,dN,dI 0,dI 0,dS ⟨#[]⟩,dN,dN]),
sq 8 (.mv (kI 0))])
 (.seq (.regd [sq 15 (.fieldA 4 (.t 3)),
sd 16 (.load none (.t 15)) [0],
sq 17 (.fieldA 0 (.t 4)),
sd 18 (.load (some 13) (.t 17)) [2],
zl 19 (.call 33 [(.t 18)]) [2,3] [3,15],
zl 20 (.call 51 [(.t 16),(.t 19)]) [0,1,2,3,4] [],
sd 14 (.mv (.t 20)) [0,1,2,3,4,5],
sd 21 (.ext (.t 14) 0) [0,1,2,3,4,5,6],
sd 22 (.ext (.t 14) 1) [0,1,2,3,4,5,6],
sd 9 (.mv (.t 21)) [0,1,2,3,4,5,6,7],
sd 10 (.mv (.t 22)) [0,1,2,3,4,5,6,7,8,9]])
 (.seq (.block 0 (.seq (.sem (.reg [sq 24 (.load (some 23) (.t 4)),
sq 25 (.call 31 [(.t 24)]),
sq 26 (.not (.t 25)),
sq 27 (.mv (.t 26)),
zg 28 27 false (.mv (.t 2)),
zg 29 27 false (.bin .lss (.t 28) (kI 0)),
sq 30 (.pick (.t 27) (kB true) (.t 29)),
sq 31 (.mv (.t 30)),
zg 32 31 false (.mv (.t 2)),
zg 33 31 false (.bin .gtr (.t 32) (kI 1000000000000)),
sq 34 (.pick (.t 31) (kB true) (.t 33)),
sq 23 (.mv (.t 34))]))
 (.cond (.t 23)
 (.seq (.reg [sq 35 (.load (some 6) (.t 3)),
sq 36 (.call 32 [(.t 35)]),
sq 37 (.build [dS ⟨#[]⟩,dS ⟨#[]⟩,dS ⟨#[]⟩,dI 0,dI 0,dI 0,dI 0,dB false,dI 0,dN,dN,dN,dN,dI 0,dI 0,dS ⟨#[]⟩,dN,dN,dI 0,dI 0,dS ⟨#[]⟩,dN,dN] []),
su (.store 6 (.t 6) (.t 36)),
su (.store 23 (.t 7) (.t 37)),
sq 8 (.mv (kI 1))])
 .ret)
 (.seq (.reg [sq 39 (.mv (.t 10)),
sq 38 (.mv (.t 39))])
 (.cond (.t 38)
 (.seq (.reg [sq 40 (.load (some 6) (.t 3)),
sq 41 (.call 32 [(.t 40)]),
sq 42 (.build [dS ⟨#[]⟩,dS ⟨#[]⟩,dS ⟨#[]⟩,dI 0,dI 0,dI 0,dI 0,dB false,dI 0,dN,dN,dN,dN,dI 0,dI 0,dS ⟨#[]⟩,dN,dN,dI 0,dI 0,dS ⟨#[]⟩,dN,dN] []),
su (.store 6 (.t 6) (.t 41)),
su (.store 23 (.t 7) (.t 42)),
sq 8 (.mv (kI 8))])
 .ret)
 (.seq (.sem (.reg [sq 44 (.fieldA 4 (.t 3)),
sq 45 (.load none (.t 44)),
sq 46 (.len (.t 45)),
sq 47 (.bin .geq (.t 46) (kI 500)),
sq 48 (.mv (.t 47)),
zg 49 48 false (.fieldA 0 (.t 3)),
zg 50 48 false (.load none (.t 49)),
zg 51 48 false (.bin .geq (.t 50) (kI 1000000000000000)),
sq 52 (.pick (.t 48) (kB true) (.t 51)),
sq 53 (.mv (.t 52)),
zg 54 53 false (.fieldA 2 (.t 3)),
zg 55 53 false (.load none (.t 54)),
zg 56 53 false (.bin .geq (.t 55) (kI 1000000000000000)),
sq 57 (.pick (.t 53) (kB true) (.t 56)),
sq 43 (.mv (.t 57))]))
 (.cond (.t 43)
 (.seq (.reg [sq 58 (.load (some 6) (.t 3)),
sq 59 (.call 32 [(.t 58)]),
sq 60 (.build [dS ⟨#[]⟩,dS ⟨#[]⟩,dS ⟨#[]⟩,dI 0,dI 0,dI 0,dI 0,dB false,dI 0,dN,dN,dN,dN,dI 0,dI 0,dS ⟨#[]⟩,dN,dN,dI 0,dI 0,dS ⟨#[]⟩,dN,dN] []),
su (.store 6 (.t 6) (.t 59)),
su (.store 23 (.t 7) (.t 60)),
sq 8 (.mv (kI 15))])
 .ret)
 .skip)))))))
 (.seq (.reg [sq 61 (.load (some 23) (.t 4)),
sq 62 (.call 34 [(.t 61)]),
sq 11 (.zbox [dS ⟨#[]⟩,dS ⟨#[]⟩,dS ⟨#[]⟩,dI 0,dI 0,dI 0,dI 0,dB false,dI 0,dN,dN,dN,dN,dI 0,dI 0,dS ⟨#[]⟩,dN,dN,dI 0,dI 0,dS ⟨#[]⟩,dN,dN]),
su (.store 23 (.t 11) (.t 62))])
 (.seq (.reg [sq 63 (.fieldA 0 (.t 11)),
sq 12 (.mv (.t 63))])
 (.seq (.sem (.regd [sq 64 (.mv (.t 12)),
sq 65 (.mv (.t 12)),
sq 66 (.mv (.t 12)),
sq 67 (.mv (.t 12)),
sq 68 (.mv (.t 12)),
sq 69 (.mv (.t 12)),
sq 70 (.fieldA 2 (.t 3)),
sd 71 (.load none (.t 70)) [6],
sq 72 (.fieldA 0 (.t 3)),
sd 73 (.load none (.t 72)) [8],
sd 74 (.bin .add (.t 73) (kI 1)) [8,9],
sq 75 (.mv (.t 2)),
sd 76 (.fieldA 0 (.t 64)) [0,6,7],
sd 77 (.fieldA 3 (.t 76)) [0,6,7,12],
⟨none,none,.store 1 (.t 77) (.t 71),[0,6,7,12,13],(.lone [3,72])⟩,
sd 78 (.fieldA 0 (.t 65)) [0,1,6,7,8,9,10,12,13,14],
sd 79 (.fieldA 4 (.t 78)) [0,1,6,7,8,9,10,12,13,14,15],
⟨none,none,.store 1 (.t 79) (.t 74),[0,1,6,7,8,9,10,12,13,14,15,16],(.lone [])⟩,
sd 80 (.fieldA 0 (.t 66)) [0,1,2,6,7,8,9,10,12,13,14,15,16,17],
sd 81 (.fieldA 5 (.t 80)) [0,1,2,6,7,8,9,10,12,13,14,15,16,17,18],
⟨none,none,.store 1 (.t 81) (kI 1),[0,1,2,6,7,8,9,10,12,13,14,15,16,17,18,19],(.lone [])⟩,
sd 82 (.fieldA 0 (.t 67)) [0,1,2,3,6,7,8,9,10,11,12,13,14,15,16,17,18,19,20],
sd 83 (.fieldA 6 (.t 82)) [0,1,2,3,6,7,8,9,10,11,12,13,14,15,16,17,18,19,20,21],
⟨none,none,.store 1 (.t 83) (.t 75),[0,1,2,3,6,7,8,9,10,11,12,13,14,15,16,17,18,19,20,21,22],(.lone [])⟩,
sd 84 (.fieldA 0 (.t 68)) [0,1,2,3,4,6,7,8,9,10,11,12,13,14,15,16,17,18,19,20,21,22,23],
sd 85 (.fieldA 7 (.t 84)) [0,1,2,3,4,6,7,8,9,10,11,12,13,14,15,16,17,18,19,20,21,22,23,24],
⟨none,none,.store 1 (.t 85) (kB false),[0,1,2,3,4,6,7,8,9,10,11,12,13,14,15,16,17,18,19,20,21,22,23,24,25],(.lone [])⟩,
sd 86 (.fieldA 0 (.t 69)) [0,1,2,3,4,5,6,7,8,9,10,11,12,13,14,15,16,17,18,19,20,21,22,23,24,25,26],
sd 87 (.fieldA 8 (.t 86)) [0,1,2,3,4,5,6,7,8,9,10,11,12,13,14,15,16,17,18,19,20,21,22,23,24,25,26,27],
⟨none,none,.store 1 (.t 87) (kI 0),[0,1,2,3,4,5,6,7,8,9,10,11,12,13,14,15,16,17,18,19,20,21,22,23,24,25,26,27,28],(.lone [])⟩]))
 (.seq (.reg [sq 88 (.load (some 6) (.t 3)),
sq 89 (.load (some 23) (.t 11)),
sq 90 (.call 36 [(.t 88),(kI 1),(.t 89)]),
sq 13 (.zbox [dI 0,dI 0,dI 0,dN,dN,dN]),
su (.store 6 (.t 13) (.t 90))])
 (.seq (.reg [sq 91 (.fieldA 2 (.t 13)),
sq 92 (.load none (.t 91)),
sq 93 (.bin .add (.t 92) (kI 1)),
sq 94 (.fieldA 2 (.t 13)),
⟨none,none,.store 1 (.t 94) (.t 93),[],(.lone [13,91,13])⟩])
 (.seq (.regd [sq 95 (.load (some 6) (.t 13)),
sq 96 (.load (some 23) (.t 11)),
⟨none,none,.store 6 (.t 6) (.t 95),[0],(.lone [11])⟩,
⟨none,none,.store 23 (.t 7) (.t 96),[0,1,2],(.lone [])⟩,
sd 8 (.mv (kI 0)) [0,1,2,3]])
 .ret)))))))))⟩
theorem a25_ok:afn Try.prog 25=some a25.er:=by kernel_rfl
theorem F25_ok{x0 x1 x2 r}(h:F25 x0 x1 x2=some r):CallD Try.prog 25 [.agg [dI x0.Rev,dI x0.Floor,dI x0.NextUid,dM (x0.Base.map eObject),dM (x0.Objects.map eObject),dM (x0.History.map eChange)],.agg [dS x1.Meta.Kind,dS x1.Meta.Namespace,dS x1.Meta.Name,dI x1.Meta.Uid,dI x1.Meta.Version,dI x1.Meta.Generation,dI x1.Meta.Created,dB x1.Meta.Deleting,dI x1.Meta.DeleteAt,dM (x1.Meta.Labels.map eLabel),dM (x1.Meta.Owners.map eOwner),dM (x1.Meta.Finalizers.map eS),dM (x1.Meta.Managers.map eManager),dI x1.Spec.Kind,dI x1.Spec.N,dS x1.Spec.S,dM (x1.Spec.List_.map eTValue),dM (x1.Spec.Fields.map eTField),dI x1.Status.Kind,dI x1.Status.N,dS x1.Status.S,dM (x1.Status.List_.map eTValue),dM (x1.Status.Fields.map eTField)],.c (dI x2)] [] (tupV [.agg [dI r.1,dI r.2.1,dI r.2.2.1,.own 0 0 0 (r.2.2.2.1.length) none,.own 1 0 0 (r.2.2.2.2.1.length) none,.own 2 0 0 (r.2.2.2.2.2.1.length) none],.agg [dS ((r.2.2.2.2.2.2.1).Meta.Kind),dS ((r.2.2.2.2.2.2.1).Meta.Namespace),dS ((r.2.2.2.2.2.2.1).Meta.Name),dI ((r.2.2.2.2.2.2.1).Meta.Uid),dI ((r.2.2.2.2.2.2.1).Meta.Version),dI ((r.2.2.2.2.2.2.1).Meta.Generation),dI ((r.2.2.2.2.2.2.1).Meta.Created),dB ((r.2.2.2.2.2.2.1).Meta.Deleting),dI ((r.2.2.2.2.2.2.1).Meta.DeleteAt),dM (((r.2.2.2.2.2.2.1).Meta.Labels).map eLabel),dM (((r.2.2.2.2.2.2.1).Meta.Owners).map eOwner),dM (((r.2.2.2.2.2.2.1).Meta.Finalizers).map eS),dM (((r.2.2.2.2.2.2.1).Meta.Managers).map eManager),dI ((r.2.2.2.2.2.2.1).Spec.Kind),dI ((r.2.2.2.2.2.2.1).Spec.N),dS ((r.2.2.2.2.2.2.1).Spec.S),dM (((r.2.2.2.2.2.2.1).Spec.List_).map eTValue),dM (((r.2.2.2.2.2.2.1).Spec.Fields).map eTField),dI ((r.2.2.2.2.2.2.1).Status.Kind),dI ((r.2.2.2.2.2.2.1).Status.N),dS ((r.2.2.2.2.2.2.1).Status.S),dM (((r.2.2.2.2.2.2.1).Status.List_).map eTValue),dM (((r.2.2.2.2.2.2.1).Status.Fields).map eTField)],.c (dI r.2.2.2.2.2.2.2)]) [some (.arr 0 23 (r.2.2.2.1.map eObject)),some (.arr 0 23 (r.2.2.2.2.1.map eObject)),some (.arr 0 25 (r.2.2.2.2.2.1.map eChange))]:=by
 refine callS a25_ok (by simp[a25]) ?_
 rw[F25]at h
 simp only[a25,VW.down,Nat.reduceEqDiff,reduceCtorEq,Nat.reduceAdd,Nat.reduceLeDiff,Nat.reduceLT,Nat.reduceBEq,Nat.reduceSub,EE.down]
 obtain⟨t1,ht1,h⟩:=bi h
 refine cN [] (F33_ok ht1) trivial (ww ?_)
 obtain⟨t2,ht2,h⟩:=bi h
 refine cN [] (F51_ok ht2) trivial (ww ?_)
 obtain⟨o3,ho,h⟩:=bi h
 refine cutS (fun s=>s=⟨[(2,.one (.c (dI x2))),(3,.one (.c (.pt 0 0))),(4,.one (.c (.pt 1 0))),(6,.one (.c (.pt 2 0))),(7,.one (.c (.pt 3 0))),(10,.one (.c (dB t2.2))),(23,.one (.c (dB o3)))],[some (.box [dI x0.Rev,dI x0.Floor,dI x0.NextUid,dM (x0.Base.map eObject),dM (x0.Objects.map eObject),dM (x0.History.map eChange)]),some (.box [dS x1.Meta.Kind,dS x1.Meta.Namespace,dS x1.Meta.Name,dI x1.Meta.Uid,dI x1.Meta.Version,dI x1.Meta.Generation,dI x1.Meta.Created,dB x1.Meta.Deleting,dI x1.Meta.DeleteAt,dM (x1.Meta.Labels.map eLabel),dM (x1.Meta.Owners.map eOwner),dM (x1.Meta.Finalizers.map eS),dM (x1.Meta.Managers.map eManager),dI x1.Spec.Kind,dI x1.Spec.N,dS x1.Spec.S,dM (x1.Spec.List_.map eTValue),dM (x1.Spec.Fields.map eTField),dI x1.Status.Kind,dI x1.Status.N,dS x1.Status.S,dM (x1.Status.List_.map eTValue),dM (x1.Status.Fields.map eTField)]),some (.box [dI 0,dI 0,dI 0,dN,dN,dN]),some (.box [dS ((⟨#[]⟩:ByteArray)),dS ((⟨#[]⟩:ByteArray)),dS ((⟨#[]⟩:ByteArray)),dI 0,dI 0,dI 0,dI 0,dB false,dI 0,dN,dN,dN,dN,dI 0,dI 0,dS ((⟨#[]⟩:ByteArray)),dN,dN,dI 0,dI 0,dS ((⟨#[]⟩:ByteArray)),dN,dN])]⟩) ?_ ?_
 ·have h:=ho
  clear ho
  refine ww ?_
  obtain⟨t4,ht4,h⟩:=bi h
  refine cN [] (F31_ok ht4) trivial (ww ?_)
  refine guardSBh h (fun g5 h=>?_) (fun g5 h=>?_)
  ·refine ww ?_
   cases h
   exact eM [some 0,some 1,some 2,some 3] rfl
  refine ww ?_
  refine guardSh h (fun g6 h=>?_) (fun g6 h=>?_)
  ·refine ww ?_
   cases h
   exact eM [some 0,some 1,some 2,some 3] rfl
  refine ww ?_
  cases h
  exact eM [some 0,some 1,some 2,some 3] rfl
 rintro _ rfl
 clear ho
 refine ww ?_
 refine condBh h (fun c7 h=>?_) (fun c7 h=>?_)
 ·refine ww ?_
  obtain⟨t8,ht8,h⟩:=bi h
  refine cN [] (F32_ok ht8) trivial (ww ?_)
  cases h
  exact eF [some 4,some 5,some 6]
 refine ww ?_
 refine condBh h (fun c9 h=>?_) (fun c9 h=>?_)
 ·refine ww ?_
  obtain⟨t10,ht10,h⟩:=bi h
  refine cN [] (F32_ok ht10) trivial (ww ?_)
  cases h
  exact eF [some 4,some 5,some 6]
 refine ww ?_
 obtain⟨o11,ho,h⟩:=bi h
 refine cutS (fun s=>s=⟨[(2,.one (.c (dI x2))),(3,.one (.c (.pt 0 0))),(4,.one (.c (.pt 1 0))),(6,.one (.c (.pt 2 0))),(7,.one (.c (.pt 3 0))),(43,.one (.c (dB o11)))],[some (.box [dI x0.Rev,dI x0.Floor,dI x0.NextUid,dM (x0.Base.map eObject),dM (x0.Objects.map eObject),dM (x0.History.map eChange)]),some (.box [dS x1.Meta.Kind,dS x1.Meta.Namespace,dS x1.Meta.Name,dI x1.Meta.Uid,dI x1.Meta.Version,dI x1.Meta.Generation,dI x1.Meta.Created,dB x1.Meta.Deleting,dI x1.Meta.DeleteAt,dM (x1.Meta.Labels.map eLabel),dM (x1.Meta.Owners.map eOwner),dM (x1.Meta.Finalizers.map eS),dM (x1.Meta.Managers.map eManager),dI x1.Spec.Kind,dI x1.Spec.N,dS x1.Spec.S,dM (x1.Spec.List_.map eTValue),dM (x1.Spec.Fields.map eTField),dI x1.Status.Kind,dI x1.Status.N,dS x1.Status.S,dM (x1.Status.List_.map eTValue),dM (x1.Status.Fields.map eTField)]),some (.box [dI 0,dI 0,dI 0,dN,dN,dN]),some (.box [dS ((⟨#[]⟩:ByteArray)),dS ((⟨#[]⟩:ByteArray)),dS ((⟨#[]⟩:ByteArray)),dI 0,dI 0,dI 0,dI 0,dB false,dI 0,dN,dN,dN,dN,dI 0,dI 0,dS ((⟨#[]⟩:ByteArray)),dN,dN,dI 0,dI 0,dS ((⟨#[]⟩:ByteArray)),dN,dN])]⟩) ?_ ?_
 ·have h:=ho
  clear ho
  refine ww ?_
  refine guardSh h (fun g12 h=>?_) (fun g12 h=>?_)
  ·refine ww ?_
   cases h
   exact eM [some 0,some 1,some 2,some 3] rfl
  refine ww ?_
  refine guardSh h (fun g13 h=>?_) (fun g13 h=>?_)
  ·refine ww ?_
   cases h
   exact eM [some 0,some 1,some 2,some 3] rfl
  refine ww ?_
  cases h
  exact eM [some 0,some 1,some 2,some 3] rfl
 rintro _ rfl
 clear ho
 refine ww ?_
 refine condBh h (fun c14 h=>?_) (fun c14 h=>?_)
 ·refine ww ?_
  obtain⟨t15,ht15,h⟩:=bi h
  refine cN [] (F32_ok ht15) trivial (ww ?_)
  cases h
  exact eF [some 4,some 5,some 6]
 refine ww ?_
 obtain⟨t16,ht16,h⟩:=bi h
 refine cN [] (F34_ok ht16) trivial (ww ?_)
 obtain⟨o17,ho,h⟩:=bi h
 refine cutS (fun s=>s=⟨[(3,.one (.c (.pt 0 0))),(6,.one (.c (.pt 1 0))),(7,.one (.c (.pt 2 0))),(11,.one (.c (.pt 3 0)))],[some (.box [dI x0.Rev,dI x0.Floor,dI x0.NextUid,dM (x0.Base.map eObject),dM (x0.Objects.map eObject),dM (x0.History.map eChange)]),some (.box [dI 0,dI 0,dI 0,dN,dN,dN]),some (.box [dS ((⟨#[]⟩:ByteArray)),dS ((⟨#[]⟩:ByteArray)),dS ((⟨#[]⟩:ByteArray)),dI 0,dI 0,dI 0,dI 0,dB false,dI 0,dN,dN,dN,dN,dI 0,dI 0,dS ((⟨#[]⟩:ByteArray)),dN,dN,dI 0,dI 0,dS ((⟨#[]⟩:ByteArray)),dN,dN]),some (.box [dS x1.Meta.Kind,dS x1.Meta.Namespace,dS x1.Meta.Name,dI x0.NextUid,dI ((IntKind.i64.wrap (x0.Rev+1))),dI 1,dI x2,dB false,dI 0,dM (t16.1.map eLabel),dM (t16.2.1.map eOwner),dM (t16.2.2.1.map eS),dM (t16.2.2.2.1.map eManager),dI t16.2.2.2.2.1,dI t16.2.2.2.2.2.1,dS t16.2.2.2.2.2.2.1,dM (t16.2.2.2.2.2.2.2.1.map eTValue),dM (t16.2.2.2.2.2.2.2.2.1.map eTField),dI t16.2.2.2.2.2.2.2.2.2.1,dI t16.2.2.2.2.2.2.2.2.2.2.1,dS t16.2.2.2.2.2.2.2.2.2.2.2.1,dM (t16.2.2.2.2.2.2.2.2.2.2.2.2.1.map eTValue),dM (t16.2.2.2.2.2.2.2.2.2.2.2.2.2.map eTField)])]⟩) ?_ ?_
 ·have h:=ho
  clear ho
  refine ww ?_
  cases h
  exact eM [some 0,some 2,some 3,some 8] rfl
 rintro _ rfl
 clear ho
 refine ww ?_
 obtain⟨t18,ht18,h⟩:=bi h
 refine cN [] (F36_ok ht18) trivial (ww ?_)
 cases h
 exact eF [some 4,some 5,some 6]
end Go.Proofs.Ytbopaemngpbdgaa
