/- Each Go function as a function over typed data, and its walk. -/
import Derived.Test.YtbopaemngpbdgaaGreatW0
import Derived.Test.YtbopaemngpbdgaaGreatW2
import Derived.Test.YtbopaemngpbdgaaGreatW4
import Derived.Test.YtbopaemngpbdgaaGreatW7
import Derived.Test.YtbopaemngpbdgaaGreatW8
import Derived.Test.YtbopaemngpbdgaaGreatW9
namespace Go.Proofs.YtbopaemngpbdgaaGreat
open Go Go.Fw Go.Shelf
set_option maxRecDepth 100000
set_option maxHeartbeats 4000000
set_option linter.unusedSimpArgs false
set_option linter.unusedVariables false
def F32(x0:TStore)(x1:Object)(x2:Int):Option (Int×Int×Int×(List Object)×(List Object)×(List Change)×Object×Int):=(F37 x1.Meta).bind fun t1=>(F35 x0.Objects t1).bind fun t2=>(((F38 x1).bind fun t4=>(if(nb t4)=true then some true else(if x2<0 then some true else some (decide (1000000000000<x2))))).bind fun o3=>(if o3=true then(F39 x0).bind fun t8=>some ((x0.Rev,x0.Floor,x0.NextUid,t8.1,t8.2.1,t8.2.2,(⟨(⟨(⟨#[]⟩:ByteArray),(⟨#[]⟩:ByteArray),(⟨#[]⟩:ByteArray),0,0,0,0,false,0,[],[],[],[]⟩:Meta),(⟨0,0,(⟨#[]⟩:ByteArray),[],[]⟩:TValue),(⟨0,0,(⟨#[]⟩:ByteArray),[],[]⟩:TValue)⟩:Object),1))else(if t2.2=true then(F39 x0).bind fun t10=>some ((x0.Rev,x0.Floor,x0.NextUid,t10.1,t10.2.1,t10.2.2,(⟨(⟨(⟨#[]⟩:ByteArray),(⟨#[]⟩:ByteArray),(⟨#[]⟩:ByteArray),0,0,0,0,false,0,[],[],[],[]⟩:Meta),(⟨0,0,(⟨#[]⟩:ByteArray),[],[]⟩:TValue),(⟨0,0,(⟨#[]⟩:ByteArray),[],[]⟩:TValue)⟩:Object),8))else(((if 500≤(x0.Objects.length:Int)then some true else(if 1000000000000000≤x0.Rev then some true else some (decide (1000000000000000≤x0.NextUid))))).bind fun o11=>(if o11=true then(F39 x0).bind fun t15=>some ((x0.Rev,x0.Floor,x0.NextUid,t15.1,t15.2.1,t15.2.2,(⟨(⟨(⟨#[]⟩:ByteArray),(⟨#[]⟩:ByteArray),(⟨#[]⟩:ByteArray),0,0,0,0,false,0,[],[],[],[]⟩:Meta),(⟨0,0,(⟨#[]⟩:ByteArray),[],[]⟩:TValue),(⟨0,0,(⟨#[]⟩:ByteArray),[],[]⟩:TValue)⟩:Object),15))else(F36 x1).bind fun t16=>((some (())).bind fun o17=>(F41 x0 1 ((⟨(⟨x1.Meta.Kind,x1.Meta.Namespace,x1.Meta.Name,x0.NextUid,(IntKind.i64.wrap (x0.Rev+1)),1,x2,false,0,t16.1,t16.2.1,t16.2.2.1,t16.2.2.2.1⟩:Meta),(⟨t16.2.2.2.2.1,t16.2.2.2.2.2.1,t16.2.2.2.2.2.2.1,t16.2.2.2.2.2.2.2.1,t16.2.2.2.2.2.2.2.2.1⟩:TValue),(⟨t16.2.2.2.2.2.2.2.2.2.1,t16.2.2.2.2.2.2.2.2.2.2.1,t16.2.2.2.2.2.2.2.2.2.2.2.1,t16.2.2.2.2.2.2.2.2.2.2.2.2.1,t16.2.2.2.2.2.2.2.2.2.2.2.2.2⟩:TValue)⟩:Object))).bind fun t18=>some ((t18.1,t18.2.1,(IntKind.i64.wrap (x0.NextUid+1)),t18.2.2.1,t18.2.2.2.1,t18.2.2.2.2,(⟨(⟨x1.Meta.Kind,x1.Meta.Namespace,x1.Meta.Name,x0.NextUid,(IntKind.i64.wrap (x0.Rev+1)),1,x2,false,0,t16.1,t16.2.1,t16.2.2.1,t16.2.2.2.1⟩:Meta),(⟨t16.2.2.2.2.1,t16.2.2.2.2.2.1,t16.2.2.2.2.2.2.1,t16.2.2.2.2.2.2.2.1,t16.2.2.2.2.2.2.2.2.1⟩:TValue),(⟨t16.2.2.2.2.2.2.2.2.2.1,t16.2.2.2.2.2.2.2.2.2.2.1,t16.2.2.2.2.2.2.2.2.2.2.2.1,t16.2.2.2.2.2.2.2.2.2.2.2.2.1,t16.2.2.2.2.2.2.2.2.2.2.2.2.2⟩:TValue)⟩:Object),0))))))))
def a32:AFn:=⟨97,[(.cell 6 (some 6)),(.cell 7 (some 23)),(.tmp 8)],
 (.seq (.reg [sq 3 (.box (.t 0)),
sq 4 (.box (.t 1)),
sq 6 (.zbox [dI 0,dI 0,dI 0,dN,dN,dN]),
sq 7 (.zbox [dS ⟨#[]⟩,dS ⟨#[]⟩,dS ⟨#[]⟩,dI 0,dI 0,dI 0,dI 0,dB false,dI 0,dN,dN,dN,dN,dI 0,dI 0,dS ⟨#[]⟩,dN,dN,dI 0,dI 0,dS ⟨#[]⟩,dN,dN]),
sq 8 (.mv (kI 0))])
 (.seq (.regd [sq 15 (.fieldA 4 (.t 3)),
sd 16 (.load none (.t 15)) [0],
sq 17 (.fieldA 0 (.t 4)),
sd 18 (.load (some 13) (.t 17)) [2],
zl 19 (.call 37 [(.t 18)]) [2,3] [3,15],
zl 20 (.call 35 [(.t 16),(.t 19)]) [0,1,2,3,4] [],
sd 14 (.mv (.t 20)) [0,1,2,3,4,5],
sd 21 (.ext (.t 14) 0) [0,1,2,3,4,5,6],
sd 22 (.ext (.t 14) 1) [0,1,2,3,4,5,6],
sd 9 (.mv (.t 21)) [0,1,2,3,4,5,6,7],
sd 10 (.mv (.t 22)) [0,1,2,3,4,5,6,7,8,9]])
 (.seq (.block 0 (.seq (.sem (.reg [sq 24 (.load (some 23) (.t 4)),
sq 25 (.call 38 [(.t 24)]),
sq 26 (.not (.t 25)),
sq 27 (.mv (.t 26)),
zg 28 27 false (.mv (.t 2)),
zg 29 27 false (.bin .lss (.t 28) (kI 0)),
sq 30 (.pick (.t 27) (kB true) (.t 29)),
sq 31 (.mv (.t 30)),
zg 32 31 false (.mv (.t 2)),
zg 33 31 false (.bin .gtr (.t 32) (kI 1000000000000)),
sq 34 (.pick (.t 31) (kB true) (.t 33)),
sq 23 (.mv (.t 34))]))
 (.cond (.t 23)
 (.seq (.reg [sq 35 (.load (some 6) (.t 3)),
sq 36 (.call 39 [(.t 35)]),
sq 37 (.build [dS ⟨#[]⟩,dS ⟨#[]⟩,dS ⟨#[]⟩,dI 0,dI 0,dI 0,dI 0,dB false,dI 0,dN,dN,dN,dN,dI 0,dI 0,dS ⟨#[]⟩,dN,dN,dI 0,dI 0,dS ⟨#[]⟩,dN,dN] []),
su (.store 6 (.t 6) (.t 36)),
su (.store 23 (.t 7) (.t 37)),
sq 8 (.mv (kI 1))])
 .ret)
 (.seq (.reg [sq 39 (.mv (.t 10)),
sq 38 (.mv (.t 39))])
 (.cond (.t 38)
 (.seq (.reg [sq 40 (.load (some 6) (.t 3)),
sq 41 (.call 39 [(.t 40)]),
sq 42 (.build [dS ⟨#[]⟩,dS ⟨#[]⟩,dS ⟨#[]⟩,dI 0,dI 0,dI 0,dI 0,dB false,dI 0,dN,dN,dN,dN,dI 0,dI 0,dS ⟨#[]⟩,dN,dN,dI 0,dI 0,dS ⟨#[]⟩,dN,dN] []),
su (.store 6 (.t 6) (.t 41)),
su (.store 23 (.t 7) (.t 42)),
sq 8 (.mv (kI 8))])
 .ret)
 (.seq (.sem (.reg [sq 44 (.fieldA 4 (.t 3)),
sq 45 (.load none (.t 44)),
sq 46 (.len (.t 45)),
sq 47 (.bin .geq (.t 46) (kI 500)),
sq 48 (.mv (.t 47)),
zg 49 48 false (.fieldA 0 (.t 3)),
zg 50 48 false (.load none (.t 49)),
zg 51 48 false (.bin .geq (.t 50) (kI 1000000000000000)),
sq 52 (.pick (.t 48) (kB true) (.t 51)),
sq 53 (.mv (.t 52)),
zg 54 53 false (.fieldA 2 (.t 3)),
zg 55 53 false (.load none (.t 54)),
zg 56 53 false (.bin .geq (.t 55) (kI 1000000000000000)),
sq 57 (.pick (.t 53) (kB true) (.t 56)),
sq 43 (.mv (.t 57))]))
 (.cond (.t 43)
 (.seq (.reg [sq 58 (.load (some 6) (.t 3)),
sq 59 (.call 39 [(.t 58)]),
sq 60 (.build [dS ⟨#[]⟩,dS ⟨#[]⟩,dS ⟨#[]⟩,dI 0,dI 0,dI 0,dI 0,dB false,dI 0,dN,dN,dN,dN,dI 0,dI 0,dS ⟨#[]⟩,dN,dN,dI 0,dI 0,dS ⟨#[]⟩,dN,dN] []),
su (.store 6 (.t 6) (.t 59)),
su (.store 23 (.t 7) (.t 60)),
sq 8 (.mv (kI 15))])
 .ret)
 .skip)))))))
 (.seq (.reg [sq 61 (.load (some 23) (.t 4)),
sq 62 (.call 36 [(.t 61)]),
sq 11 (.zbox [dS ⟨#[]⟩,dS ⟨#[]⟩,dS ⟨#[]⟩,dI 0,dI 0,dI 0,dI 0,dB false,dI 0,dN,dN,dN,dN,dI 0,dI 0,dS ⟨#[]⟩,dN,dN,dI 0,dI 0,dS ⟨#[]⟩,dN,dN]),
su (.store 23 (.t 11) (.t 62))])
 (.seq (.reg [sq 63 (.fieldA 0 (.t 11)),
sq 12 (.mv (.t 63))])
 (.seq (.sem (.regd [sq 64 (.mv (.t 12)),
sq 65 (.mv (.t 12)),
sq 66 (.mv (.t 12)),
sq 67 (.mv (.t 12)),
sq 68 (.mv (.t 12)),
sq 69 (.mv (.t 12)),
sq 70 (.fieldA 2 (.t 3)),
sd 71 (.load none (.t 70)) [6],
sq 72 (.fieldA 0 (.t 3)),
sd 73 (.load none (.t 72)) [8],
sd 74 (.bin .add (.t 73) (kI 1)) [8,9],
sq 75 (.mv (.t 2)),
sd 76 (.fieldA 0 (.t 64)) [0,6,7],
sd 77 (.fieldA 3 (.t 76)) [0,6,7,12],
⟨none,none,.store 1 (.t 77) (.t 71),[0,6,7,12,13],(.lone [3,72])⟩,
sd 78 (.fieldA 0 (.t 65)) [0,1,6,7,8,9,10,12,13,14],
sd 79 (.fieldA 4 (.t 78)) [0,1,6,7,8,9,10,12,13,14,15],
⟨none,none,.store 1 (.t 79) (.t 74),[0,1,6,7,8,9,10,12,13,14,15,16],(.lone [])⟩,
sd 80 (.fieldA 0 (.t 66)) [0,1,2,6,7,8,9,10,12,13,14,15,16,17],
sd 81 (.fieldA 5 (.t 80)) [0,1,2,6,7,8,9,10,12,13,14,15,16,17,18],
⟨none,none,.store 1 (.t 81) (kI 1),[0,1,2,6,7,8,9,10,12,13,14,15,16,17,18,19],(.lone [])⟩,
sd 82 (.fieldA 0 (.t 67)) [0,1,2,3,6,7,8,9,10,11,12,13,14,15,16,17,18,19,20],
sd 83 (.fieldA 6 (.t 82)) [0,1,2,3,6,7,8,9,10,11,12,13,14,15,16,17,18,19,20,21],
⟨none,none,.store 1 (.t 83) (.t 75),[0,1,2,3,6,7,8,9,10,11,12,13,14,15,16,17,18,19,20,21,22],(.lone [])⟩,
sd 84 (.fieldA 0 (.t 68)) [0,1,2,3,4,6,7,8,9,10,11,12,13,14,15,16,17,18,19,20,21,22,23],
sd 85 (.fieldA 7 (.t 84)) [0,1,2,3,4,6,7,8,9,10,11,12,13,14,15,16,17,18,19,20,21,22,23,24],
⟨none,none,.store 1 (.t 85) (kB false),[0,1,2,3,4,6,7,8,9,10,11,12,13,14,15,16,17,18,19,20,21,22,23,24,25],(.lone [])⟩,
sd 86 (.fieldA 0 (.t 69)) [0,1,2,3,4,5,6,7,8,9,10,11,12,13,14,15,16,17,18,19,20,21,22,23,24,25,26],
sd 87 (.fieldA 8 (.t 86)) [0,1,2,3,4,5,6,7,8,9,10,11,12,13,14,15,16,17,18,19,20,21,22,23,24,25,26,27],
⟨none,none,.store 1 (.t 87) (kI 0),[0,1,2,3,4,5,6,7,8,9,10,11,12,13,14,15,16,17,18,19,20,21,22,23,24,25,26,27,28],(.lone [])⟩]))
 (.seq (.reg [sq 88 (.load (some 6) (.t 3)),
sq 89 (.load (some 23) (.t 11)),
sq 90 (.call 41 [(.t 88),(kI 1),(.t 89)]),
sq 13 (.zbox [dI 0,dI 0,dI 0,dN,dN,dN]),
su (.store 6 (.t 13) (.t 90))])
 (.seq (.reg [sq 91 (.fieldA 2 (.t 13)),
sq 92 (.load none (.t 91)),
sq 93 (.bin .add (.t 92) (kI 1)),
sq 94 (.fieldA 2 (.t 13)),
⟨none,none,.store 1 (.t 94) (.t 93),[],(.lone [13,91,13])⟩])
 (.seq (.regd [sq 95 (.load (some 6) (.t 13)),
sq 96 (.load (some 23) (.t 11)),
⟨none,none,.store 6 (.t 6) (.t 95),[0],(.lone [11])⟩,
⟨none,none,.store 23 (.t 7) (.t 96),[0,1,2],(.lone [])⟩,
sd 8 (.mv (kI 0)) [0,1,2,3]])
 .ret)))))))))⟩
theorem F32_ok{x0 x1 x2 r}(h:F32 x0 x1 x2=some r):CallD Tryz.prog 32 [.agg [dI x0.Rev,dI x0.Floor,dI x0.NextUid,dM (x0.Base.map eObject),dM (x0.Objects.map eObject),dM (x0.History.map eChange)],.agg [dS x1.Meta.Kind,dS x1.Meta.Namespace,dS x1.Meta.Name,dI x1.Meta.Uid,dI x1.Meta.Version,dI x1.Meta.Generation,dI x1.Meta.Created,dB x1.Meta.Deleting,dI x1.Meta.DeleteAt,dM (x1.Meta.Labels.map eLabel),dM (x1.Meta.Owners.map eOwner),dM (x1.Meta.Finalizers.map eS),dM (x1.Meta.Managers.map eManager),dI x1.Spec.Kind,dI x1.Spec.N,dS x1.Spec.S,dM (x1.Spec.List_.map eTValue),dM (x1.Spec.Fields.map eTField),dI x1.Status.Kind,dI x1.Status.N,dS x1.Status.S,dM (x1.Status.List_.map eTValue),dM (x1.Status.Fields.map eTField)],.c (dI x2)] [] (tupV [.agg [dI r.1,dI r.2.1,dI r.2.2.1,.own 0 0 0 (r.2.2.2.1.length) none,.own 1 0 0 (r.2.2.2.2.1.length) none,.own 2 0 0 (r.2.2.2.2.2.1.length) none],.agg [dS ((r.2.2.2.2.2.2.1).Meta.Kind),dS ((r.2.2.2.2.2.2.1).Meta.Namespace),dS ((r.2.2.2.2.2.2.1).Meta.Name),dI ((r.2.2.2.2.2.2.1).Meta.Uid),dI ((r.2.2.2.2.2.2.1).Meta.Version),dI ((r.2.2.2.2.2.2.1).Meta.Generation),dI ((r.2.2.2.2.2.2.1).Meta.Created),dB ((r.2.2.2.2.2.2.1).Meta.Deleting),dI ((r.2.2.2.2.2.2.1).Meta.DeleteAt),dM (((r.2.2.2.2.2.2.1).Meta.Labels).map eLabel),dM (((r.2.2.2.2.2.2.1).Meta.Owners).map eOwner),dM (((r.2.2.2.2.2.2.1).Meta.Finalizers).map eS),dM (((r.2.2.2.2.2.2.1).Meta.Managers).map eManager),dI ((r.2.2.2.2.2.2.1).Spec.Kind),dI ((r.2.2.2.2.2.2.1).Spec.N),dS ((r.2.2.2.2.2.2.1).Spec.S),dM (((r.2.2.2.2.2.2.1).Spec.List_).map eTValue),dM (((r.2.2.2.2.2.2.1).Spec.Fields).map eTField),dI ((r.2.2.2.2.2.2.1).Status.Kind),dI ((r.2.2.2.2.2.2.1).Status.N),dS ((r.2.2.2.2.2.2.1).Status.S),dM (((r.2.2.2.2.2.2.1).Status.List_).map eTValue),dM (((r.2.2.2.2.2.2.1).Status.Fields).map eTField)],.c (dI r.2.2.2.2.2.2.2)]) [some (.arr 0 23 (r.2.2.2.1.map eObject)),some (.arr 0 23 (r.2.2.2.2.1.map eObject)),some (.arr 0 25 (r.2.2.2.2.2.1.map eChange))]:=by
 rw[F32]at h
 refine zc a32 (by kernel_rfl) rfl (ww ?_)
 obtain⟨t1,ht1,h⟩:=bi h
 refine cN [] (F37_ok ht1) trivial (ww ?_)
 obtain⟨t2,ht2,h⟩:=bi h
 refine cN [] (F35_ok ht2) trivial (ww ?_)
 obtain⟨o3,ho,h⟩:=bi h
 refine cutS (fun s=>s=⟨[(2,.one (.c (dI x2))),(3,.one (.c (.pt 0 0))),(4,.one (.c (.pt 1 0))),(6,.one (.c (.pt 2 0))),(7,.one (.c (.pt 3 0))),(10,.one (.c (dB t2.2))),(23,.one (.c (dB o3)))],[some (.box [dI x0.Rev,dI x0.Floor,dI x0.NextUid,dM (x0.Base.map eObject),dM (x0.Objects.map eObject),dM (x0.History.map eChange)]),some (.box [dS x1.Meta.Kind,dS x1.Meta.Namespace,dS x1.Meta.Name,dI x1.Meta.Uid,dI x1.Meta.Version,dI x1.Meta.Generation,dI x1.Meta.Created,dB x1.Meta.Deleting,dI x1.Meta.DeleteAt,dM (x1.Meta.Labels.map eLabel),dM (x1.Meta.Owners.map eOwner),dM (x1.Meta.Finalizers.map eS),dM (x1.Meta.Managers.map eManager),dI x1.Spec.Kind,dI x1.Spec.N,dS x1.Spec.S,dM (x1.Spec.List_.map eTValue),dM (x1.Spec.Fields.map eTField),dI x1.Status.Kind,dI x1.Status.N,dS x1.Status.S,dM (x1.Status.List_.map eTValue),dM (x1.Status.Fields.map eTField)]),some (.box [dI 0,dI 0,dI 0,dN,dN,dN]),some (.box [dS ((⟨#[]⟩:ByteArray)),dS ((⟨#[]⟩:ByteArray)),dS ((⟨#[]⟩:ByteArray)),dI 0,dI 0,dI 0,dI 0,dB false,dI 0,dN,dN,dN,dN,dI 0,dI 0,dS ((⟨#[]⟩:ByteArray)),dN,dN,dI 0,dI 0,dS ((⟨#[]⟩:ByteArray)),dN,dN])]⟩) ?_ ?_
 ·have h:=ho
  clear ho
  refine ww ?_
  obtain⟨t4,ht4,h⟩:=bi h
  refine cN [] (F38_ok ht4) trivial (ww ?_)
  refine guardSBh h (fun g5 h=>?_) (fun g5 h=>?_)
  ·refine ww ?_
   cases h
   exact eM [some 0,some 1,some 2,some 3] rfl
  refine ww ?_
  refine guardSh h (fun g6 h=>?_) (fun g6 h=>?_)
  ·refine ww ?_
   cases h
   exact eM [some 0,some 1,some 2,some 3] rfl
  refine ww ?_
  cases h
  exact eM [some 0,some 1,some 2,some 3] rfl
 rintro _ rfl
 clear ho
 refine ww ?_
 refine condBh h (fun c7 h=>?_) (fun c7 h=>?_)
 ·refine ww ?_
  obtain⟨t8,ht8,h⟩:=bi h
  refine cN [] (F39_ok ht8) trivial (ww ?_)
  cases h
  exact eF [some 4,some 5,some 6]
 refine ww ?_
 refine condBh h (fun c9 h=>?_) (fun c9 h=>?_)
 ·refine ww ?_
  obtain⟨t10,ht10,h⟩:=bi h
  refine cN [] (F39_ok ht10) trivial (ww ?_)
  cases h
  exact eF [some 4,some 5,some 6]
 refine ww ?_
 obtain⟨o11,ho,h⟩:=bi h
 refine cutS (fun s=>s=⟨[(2,.one (.c (dI x2))),(3,.one (.c (.pt 0 0))),(4,.one (.c (.pt 1 0))),(6,.one (.c (.pt 2 0))),(7,.one (.c (.pt 3 0))),(43,.one (.c (dB o11)))],[some (.box [dI x0.Rev,dI x0.Floor,dI x0.NextUid,dM (x0.Base.map eObject),dM (x0.Objects.map eObject),dM (x0.History.map eChange)]),some (.box [dS x1.Meta.Kind,dS x1.Meta.Namespace,dS x1.Meta.Name,dI x1.Meta.Uid,dI x1.Meta.Version,dI x1.Meta.Generation,dI x1.Meta.Created,dB x1.Meta.Deleting,dI x1.Meta.DeleteAt,dM (x1.Meta.Labels.map eLabel),dM (x1.Meta.Owners.map eOwner),dM (x1.Meta.Finalizers.map eS),dM (x1.Meta.Managers.map eManager),dI x1.Spec.Kind,dI x1.Spec.N,dS x1.Spec.S,dM (x1.Spec.List_.map eTValue),dM (x1.Spec.Fields.map eTField),dI x1.Status.Kind,dI x1.Status.N,dS x1.Status.S,dM (x1.Status.List_.map eTValue),dM (x1.Status.Fields.map eTField)]),some (.box [dI 0,dI 0,dI 0,dN,dN,dN]),some (.box [dS ((⟨#[]⟩:ByteArray)),dS ((⟨#[]⟩:ByteArray)),dS ((⟨#[]⟩:ByteArray)),dI 0,dI 0,dI 0,dI 0,dB false,dI 0,dN,dN,dN,dN,dI 0,dI 0,dS ((⟨#[]⟩:ByteArray)),dN,dN,dI 0,dI 0,dS ((⟨#[]⟩:ByteArray)),dN,dN])]⟩) ?_ ?_
 ·have h:=ho
  clear ho
  refine ww ?_
  refine guardSh h (fun g12 h=>?_) (fun g12 h=>?_)
  ·refine ww ?_
   cases h
   exact eM [some 0,some 1,some 2,some 3] rfl
  refine ww ?_
  refine guardSh h (fun g13 h=>?_) (fun g13 h=>?_)
  ·refine ww ?_
   cases h
   exact eM [some 0,some 1,some 2,some 3] rfl
  refine ww ?_
  cases h
  exact eM [some 0,some 1,some 2,some 3] rfl
 rintro _ rfl
 clear ho
 refine ww ?_
 refine condBh h (fun c14 h=>?_) (fun c14 h=>?_)
 ·refine ww ?_
  obtain⟨t15,ht15,h⟩:=bi h
  refine cN [] (F39_ok ht15) trivial (ww ?_)
  cases h
  exact eF [some 4,some 5,some 6]
 refine ww ?_
 obtain⟨t16,ht16,h⟩:=bi h
 refine cN [] (F36_ok ht16) trivial (ww ?_)
 obtain⟨o17,ho,h⟩:=bi h
 refine cutS (fun s=>s=⟨[(3,.one (.c (.pt 0 0))),(6,.one (.c (.pt 1 0))),(7,.one (.c (.pt 2 0))),(11,.one (.c (.pt 3 0)))],[some (.box [dI x0.Rev,dI x0.Floor,dI x0.NextUid,dM (x0.Base.map eObject),dM (x0.Objects.map eObject),dM (x0.History.map eChange)]),some (.box [dI 0,dI 0,dI 0,dN,dN,dN]),some (.box [dS ((⟨#[]⟩:ByteArray)),dS ((⟨#[]⟩:ByteArray)),dS ((⟨#[]⟩:ByteArray)),dI 0,dI 0,dI 0,dI 0,dB false,dI 0,dN,dN,dN,dN,dI 0,dI 0,dS ((⟨#[]⟩:ByteArray)),dN,dN,dI 0,dI 0,dS ((⟨#[]⟩:ByteArray)),dN,dN]),some (.box [dS x1.Meta.Kind,dS x1.Meta.Namespace,dS x1.Meta.Name,dI x0.NextUid,dI ((IntKind.i64.wrap (x0.Rev+1))),dI 1,dI x2,dB false,dI 0,dM (t16.1.map eLabel),dM (t16.2.1.map eOwner),dM (t16.2.2.1.map eS),dM (t16.2.2.2.1.map eManager),dI t16.2.2.2.2.1,dI t16.2.2.2.2.2.1,dS t16.2.2.2.2.2.2.1,dM (t16.2.2.2.2.2.2.2.1.map eTValue),dM (t16.2.2.2.2.2.2.2.2.1.map eTField),dI t16.2.2.2.2.2.2.2.2.2.1,dI t16.2.2.2.2.2.2.2.2.2.2.1,dS t16.2.2.2.2.2.2.2.2.2.2.2.1,dM (t16.2.2.2.2.2.2.2.2.2.2.2.2.1.map eTValue),dM (t16.2.2.2.2.2.2.2.2.2.2.2.2.2.map eTField)])]⟩) ?_ ?_
 ·have h:=ho
  clear ho
  refine ww ?_
  cases h
  exact eM [some 0,some 2,some 3,some 8] rfl
 rintro _ rfl
 clear ho
 refine ww ?_
 obtain⟨t18,ht18,h⟩:=bi h
 refine cN [] (F41_ok ht18) trivial (ww ?_)
 cases h
 exact eF [some 4,some 5,some 6]
def F12(x0:TStore)(x1:Object):Option (Int×Int×(List Object)×(List Object)×(List Change)×ByteArray×ByteArray×ByteArray×Int×Int×Int×Int×Bool×Int×(List Label)×(List Owner)×(List ByteArray)×(List Manager)×Int×Int×ByteArray×((List TValue))×((List TField))×Int×Int×ByteArray×((List TValue))×((List TField))×Int):=(F38 x1).bind fun t1=>(if(nb t1)=true then(F39 x0).bind fun t3=>some ((x0.Rev,x0.Floor,t3.1,t3.2.1,t3.2.2,(⟨#[]⟩:ByteArray),(⟨#[]⟩:ByteArray),(⟨#[]⟩:ByteArray),0,0,0,0,false,0,[],[],[],[],0,0,(⟨#[]⟩:ByteArray),[],[],0,0,(⟨#[]⟩:ByteArray),[],[],1))else(F37 x1.Meta).bind fun t4=>(F10 x0 t4).bind fun t5=>(if(nb t5.2.2.2.2.2.2.2.2.2.2.2.2.2.2.2.2.2.2.2.2.2.2.2)=true then(F39 x0).bind fun t7=>some ((x0.Rev,x0.Floor,t7.1,t7.2.1,t7.2.2,(⟨#[]⟩:ByteArray),(⟨#[]⟩:ByteArray),(⟨#[]⟩:ByteArray),0,0,0,0,false,0,[],[],[],[],0,0,(⟨#[]⟩:ByteArray),[],[],0,0,(⟨#[]⟩:ByteArray),[],[],7))else(((if¬(x1.Meta.Version=0)then(if¬(x1.Meta.Version=t5.2.2.2.2.1)then some true else(if¬(x1.Meta.Uid=0)then some (decide (¬(x1.Meta.Uid=t5.2.2.2.1)))else some false))else(if¬(x1.Meta.Uid=0)then some (decide (¬(x1.Meta.Uid=t5.2.2.2.1)))else some false))).bind fun o8=>(if o8=true then(F39 x0).bind fun t14=>some ((x0.Rev,x0.Floor,t14.1,t14.2.1,t14.2.2,(⟨#[]⟩:ByteArray),(⟨#[]⟩:ByteArray),(⟨#[]⟩:ByteArray),0,0,0,0,false,0,[],[],[],[],0,0,(⟨#[]⟩:ByteArray),[],[],0,0,(⟨#[]⟩:ByteArray),[],[],9))else(F36 x1).bind fun t15=>(((F40 ((⟨t15.2.2.2.2.1,t15.2.2.2.2.2.1,t15.2.2.2.2.2.2.1,t15.2.2.2.2.2.2.2.1,t15.2.2.2.2.2.2.2.2.1⟩:TValue)) ((⟨t5.2.2.2.2.2.2.2.2.2.2.2.2.2.1,t5.2.2.2.2.2.2.2.2.2.2.2.2.2.2.1,t5.2.2.2.2.2.2.2.2.2.2.2.2.2.2.2.1,t5.2.2.2.2.2.2.2.2.2.2.2.2.2.2.2.2.1,t5.2.2.2.2.2.2.2.2.2.2.2.2.2.2.2.2.2.1⟩:TValue))).bind fun t17=>(if(nb t17)=true then some ((IntKind.i64.wrap (t5.2.2.2.2.2.1+1)))else some t5.2.2.2.2.2.1)).bind fun o16=>(F16 ((⟨(⟨x1.Meta.Kind,x1.Meta.Namespace,x1.Meta.Name,t5.2.2.2.1,t5.2.2.2.2.1,o16,t5.2.2.2.2.2.2.1,x1.Meta.Deleting,x1.Meta.DeleteAt,t15.1,t15.2.1,t15.2.2.1,t15.2.2.2.1⟩:Meta),(⟨t15.2.2.2.2.1,t15.2.2.2.2.2.1,t15.2.2.2.2.2.2.1,t15.2.2.2.2.2.2.2.1,t15.2.2.2.2.2.2.2.2.1⟩:TValue),(⟨t15.2.2.2.2.2.2.2.2.2.1,t15.2.2.2.2.2.2.2.2.2.2.1,t15.2.2.2.2.2.2.2.2.2.2.2.1,t15.2.2.2.2.2.2.2.2.2.2.2.2.1,t15.2.2.2.2.2.2.2.2.2.2.2.2.2⟩:TValue)⟩:Object)) ((⟨(⟨t5.1,t5.2.1,t5.2.2.1,t5.2.2.2.1,t5.2.2.2.2.1,t5.2.2.2.2.2.1,t5.2.2.2.2.2.2.1,t5.2.2.2.2.2.2.2.1,t5.2.2.2.2.2.2.2.2.1,t5.2.2.2.2.2.2.2.2.2.1,t5.2.2.2.2.2.2.2.2.2.2.1,t5.2.2.2.2.2.2.2.2.2.2.2.1,t5.2.2.2.2.2.2.2.2.2.2.2.2.1⟩:Meta),(⟨t5.2.2.2.2.2.2.2.2.2.2.2.2.2.1,t5.2.2.2.2.2.2.2.2.2.2.2.2.2.2.1,t5.2.2.2.2.2.2.2.2.2.2.2.2.2.2.2.1,t5.2.2.2.2.2.2.2.2.2.2.2.2.2.2.2.2.1,t5.2.2.2.2.2.2.2.2.2.2.2.2.2.2.2.2.2.1⟩:TValue),(⟨t5.2.2.2.2.2.2.2.2.2.2.2.2.2.2.2.2.2.2.1,t5.2.2.2.2.2.2.2.2.2.2.2.2.2.2.2.2.2.2.2.1,t5.2.2.2.2.2.2.2.2.2.2.2.2.2.2.2.2.2.2.2.2.1,t5.2.2.2.2.2.2.2.2.2.2.2.2.2.2.2.2.2.2.2.2.2.1,t5.2.2.2.2.2.2.2.2.2.2.2.2.2.2.2.2.2.2.2.2.2.2.1⟩:TValue)⟩:Object))).bind fun t19=>(if t19=true then(F39 x0).bind fun t21=>some ((x0.Rev,x0.Floor,t21.1,t21.2.1,t21.2.2,t5.1,t5.2.1,t5.2.2.1,t5.2.2.2.1,t5.2.2.2.2.1,t5.2.2.2.2.2.1,t5.2.2.2.2.2.2.1,t5.2.2.2.2.2.2.2.1,t5.2.2.2.2.2.2.2.2.1,t5.2.2.2.2.2.2.2.2.2.1,t5.2.2.2.2.2.2.2.2.2.2.1,t5.2.2.2.2.2.2.2.2.2.2.2.1,t5.2.2.2.2.2.2.2.2.2.2.2.2.1,t5.2.2.2.2.2.2.2.2.2.2.2.2.2.1,t5.2.2.2.2.2.2.2.2.2.2.2.2.2.2.1,t5.2.2.2.2.2.2.2.2.2.2.2.2.2.2.2.1,t5.2.2.2.2.2.2.2.2.2.2.2.2.2.2.2.2.1,t5.2.2.2.2.2.2.2.2.2.2.2.2.2.2.2.2.2.1,t5.2.2.2.2.2.2.2.2.2.2.2.2.2.2.2.2.2.2.1,t5.2.2.2.2.2.2.2.2.2.2.2.2.2.2.2.2.2.2.2.1,t5.2.2.2.2.2.2.2.2.2.2.2.2.2.2.2.2.2.2.2.2.1,t5.2.2.2.2.2.2.2.2.2.2.2.2.2.2.2.2.2.2.2.2.2.1,t5.2.2.2.2.2.2.2.2.2.2.2.2.2.2.2.2.2.2.2.2.2.2.1,0))else(if 1000000000000000≤x0.Rev then(F39 x0).bind fun t23=>some ((x0.Rev,x0.Floor,t23.1,t23.2.1,t23.2.2,(⟨#[]⟩:ByteArray),(⟨#[]⟩:ByteArray),(⟨#[]⟩:ByteArray),0,0,0,0,false,0,[],[],[],[],0,0,(⟨#[]⟩:ByteArray),[],[],0,0,(⟨#[]⟩:ByteArray),[],[],15))else((some (())).bind fun o24=>(F41 x0 1 ((⟨(⟨x1.Meta.Kind,x1.Meta.Namespace,x1.Meta.Name,t5.2.2.2.1,(IntKind.i64.wrap (x0.Rev+1)),o16,t5.2.2.2.2.2.2.1,x1.Meta.Deleting,x1.Meta.DeleteAt,t15.1,t15.2.1,t15.2.2.1,t15.2.2.2.1⟩:Meta),(⟨t15.2.2.2.2.1,t15.2.2.2.2.2.1,t15.2.2.2.2.2.2.1,t15.2.2.2.2.2.2.2.1,t15.2.2.2.2.2.2.2.2.1⟩:TValue),(⟨t15.2.2.2.2.2.2.2.2.2.1,t15.2.2.2.2.2.2.2.2.2.2.1,t15.2.2.2.2.2.2.2.2.2.2.2.1,t15.2.2.2.2.2.2.2.2.2.2.2.2.1,t15.2.2.2.2.2.2.2.2.2.2.2.2.2⟩:TValue)⟩:Object))).bind fun t25=>some ((t25.1,t25.2.1,t25.2.2.1,t25.2.2.2.1,t25.2.2.2.2,x1.Meta.Kind,x1.Meta.Namespace,x1.Meta.Name,t5.2.2.2.1,(IntKind.i64.wrap (x0.Rev+1)),o16,t5.2.2.2.2.2.2.1,x1.Meta.Deleting,x1.Meta.DeleteAt,t15.1,t15.2.1,t15.2.2.1,t15.2.2.2.1,t15.2.2.2.2.1,t15.2.2.2.2.2.1,t15.2.2.2.2.2.2.1,t15.2.2.2.2.2.2.2.1,t15.2.2.2.2.2.2.2.2.1,t15.2.2.2.2.2.2.2.2.2.1,t15.2.2.2.2.2.2.2.2.2.2.1,t15.2.2.2.2.2.2.2.2.2.2.2.1,t15.2.2.2.2.2.2.2.2.2.2.2.2.1,t15.2.2.2.2.2.2.2.2.2.2.2.2.2,0))))))))))
def a12:AFn:=⟨117,[(.cell 4 (some 6)),(.cell 5 (some 23)),(.tmp 6)],
 (.seq (.reg [sq 2 (.box (.t 0)),
sq 3 (.box (.t 1)),
sq 4 (.zbox [dI 0,dI 0,dI 0,dN,dN,dN]),
sq 5 (.zbox [dS ⟨#[]⟩,dS ⟨#[]⟩,dS ⟨#[]⟩,dI 0,dI 0,dI 0,dI 0,dB false,dI 0,dN,dN,dN,dN,dI 0,dI 0,dS ⟨#[]⟩,dN,dN,dI 0,dI 0,dS ⟨#[]⟩,dN,dN]),
sq 6 (.mv (kI 0))])
 (.seq (.seq (.reg [sq 10 (.load (some 23) (.t 3)),
sq 11 (.call 38 [(.t 10)]),
sq 12 (.not (.t 11))])
 (.cond (.t 12)
 (.seq (.reg [sq 13 (.load (some 6) (.t 2)),
sq 14 (.call 39 [(.t 13)]),
sq 15 (.build [dS ⟨#[]⟩,dS ⟨#[]⟩,dS ⟨#[]⟩,dI 0,dI 0,dI 0,dI 0,dB false,dI 0,dN,dN,dN,dN,dI 0,dI 0,dS ⟨#[]⟩,dN,dN,dI 0,dI 0,dS ⟨#[]⟩,dN,dN] []),
su (.store 6 (.t 4) (.t 14)),
su (.store 23 (.t 5) (.t 15)),
sq 6 (.mv (kI 1))])
 .ret)
 .skip))
 (.seq (.regd [sq 17 (.load (some 6) (.t 2)),
sq 18 (.fieldA 0 (.t 3)),
sd 19 (.load (some 13) (.t 18)) [1],
zn 20 (.call 37 [(.t 19)]) [1,2] [1,2],
zn 21 (.call 10 [(.t 17),(.t 20)]) [0,1,2,3] [0,1,2,3],
sd 16 (.mv (.t 21)) [0,1,2,3,4],
sd 22 (.ext (.t 16) 0) [0,1,2,3,4,5],
sd 23 (.ext (.t 16) 1) [0,1,2,3,4,5],
sq 7 (.zbox [dS ⟨#[]⟩,dS ⟨#[]⟩,dS ⟨#[]⟩,dI 0,dI 0,dI 0,dI 0,dB false,dI 0,dN,dN,dN,dN,dI 0,dI 0,dS ⟨#[]⟩,dN,dN,dI 0,dI 0,dS ⟨#[]⟩,dN,dN]),
⟨none,none,.store 23 (.t 7) (.t 22),[0,1,2,3,4,5,6,8],(.lone [])⟩,
sd 8 (.mv (.t 23)) [0,1,2,3,4,5,6,7,8,9]])
 (.seq (.block 0 (.seq (.reg [sq 25 (.mv (.t 8)),
sq 26 (.not (.t 25)),
sq 24 (.mv (.t 26))])
 (.cond (.t 24)
 (.seq (.reg [sq 27 (.load (some 6) (.t 2)),
sq 28 (.call 39 [(.t 27)]),
sq 29 (.build [dS ⟨#[]⟩,dS ⟨#[]⟩,dS ⟨#[]⟩,dI 0,dI 0,dI 0,dI 0,dB false,dI 0,dN,dN,dN,dN,dI 0,dI 0,dS ⟨#[]⟩,dN,dN,dI 0,dI 0,dS ⟨#[]⟩,dN,dN] []),
su (.store 6 (.t 4) (.t 28)),
su (.store 23 (.t 5) (.t 29)),
sq 6 (.mv (kI 7))])
 .ret)
 (.seq (.sem (.reg [sq 31 (.fieldA 0 (.t 3)),
sq 32 (.fieldA 4 (.t 31)),
sq 33 (.load none (.t 32)),
sq 34 (.bin .neq (.t 33) (kI 0)),
sq 35 (.mv (.t 34)),
zg 36 35 true (.fieldA 0 (.t 3)),
zg 37 35 true (.fieldA 4 (.t 36)),
zg 38 35 true (.load none (.t 37)),
zg 39 35 true (.fieldA 0 (.t 7)),
zg 40 35 true (.fieldA 4 (.t 39)),
zg 41 35 true (.load none (.t 40)),
zg 42 35 true (.bin .neq (.t 38) (.t 41)),
sq 43 (.pick (.t 35) (.t 42) (kB false)),
sq 44 (.mv (.t 43)),
zg 45 44 false (.fieldA 0 (.t 3)),
zg 46 44 false (.fieldA 3 (.t 45)),
zg 47 44 false (.load none (.t 46)),
zg 48 44 false (.bin .neq (.t 47) (kI 0)),
zg 49 44 false (.mv (.t 48)),
zg 50 49 true (.fieldA 0 (.t 3)),
zg 51 49 true (.fieldA 3 (.t 50)),
zg 52 49 true (.load none (.t 51)),
zg 53 49 true (.fieldA 0 (.t 7)),
zg 54 49 true (.fieldA 3 (.t 53)),
zg 55 49 true (.load none (.t 54)),
zg 56 49 true (.bin .neq (.t 52) (.t 55)),
zg 57 44 false (.pick (.t 49) (.t 56) (kB false)),
sq 58 (.pick (.t 44) (kB true) (.t 57)),
sq 30 (.mv (.t 58))]))
 (.cond (.t 30)
 (.seq (.reg [sq 59 (.load (some 6) (.t 2)),
sq 60 (.call 39 [(.t 59)]),
sq 61 (.build [dS ⟨#[]⟩,dS ⟨#[]⟩,dS ⟨#[]⟩,dI 0,dI 0,dI 0,dI 0,dB false,dI 0,dN,dN,dN,dN,dI 0,dI 0,dS ⟨#[]⟩,dN,dN,dI 0,dI 0,dS ⟨#[]⟩,dN,dN] []),
su (.store 6 (.t 4) (.t 60)),
su (.store 23 (.t 5) (.t 61)),
sq 6 (.mv (kI 9))])
 .ret)
 .skip)))))
 (.seq (.reg [sq 62 (.load (some 23) (.t 3)),
sq 63 (.call 36 [(.t 62)]),
sq 9 (.zbox [dS ⟨#[]⟩,dS ⟨#[]⟩,dS ⟨#[]⟩,dI 0,dI 0,dI 0,dI 0,dB false,dI 0,dN,dN,dN,dN,dI 0,dI 0,dS ⟨#[]⟩,dN,dN,dI 0,dI 0,dS ⟨#[]⟩,dN,dN]),
su (.store 23 (.t 9) (.t 63))])
 (.seq (.regd [sq 64 (.fieldA 0 (.t 7)),
sd 65 (.fieldA 3 (.t 64)) [0],
sd 66 (.load none (.t 65)) [0,1],
sq 67 (.fieldA 0 (.t 7)),
sd 68 (.fieldA 6 (.t 67)) [3],
sd 69 (.load none (.t 68)) [3,4],
sq 70 (.fieldA 0 (.t 7)),
sd 71 (.fieldA 5 (.t 70)) [6],
sd 72 (.load none (.t 71)) [6,7],
sq 73 (.fieldA 0 (.t 7)),
sd 74 (.fieldA 4 (.t 73)) [9],
sd 75 (.load none (.t 74)) [9,10],
sd 76 (.fieldA 0 (.t 9)) [0,1,2],
sd 77 (.fieldA 3 (.t 76)) [0,1,2,12],
⟨none,none,.store 1 (.t 77) (.t 66),[0,1,2,12,13],(.lone [7,67,68,7,70,71,7,73,74])⟩,
sd 78 (.fieldA 0 (.t 9)) [0,1,2,3,4,5,12,13,14],
sd 79 (.fieldA 6 (.t 78)) [0,1,2,3,4,5,12,13,14,15],
⟨none,none,.store 1 (.t 79) (.t 69),[0,1,2,3,4,5,12,13,14,15,16],(.lone [7,70,71,7,73,74])⟩,
sd 80 (.fieldA 0 (.t 9)) [0,1,2,3,4,5,6,7,8,12,13,14,15,16,17],
sd 81 (.fieldA 5 (.t 80)) [0,1,2,3,4,5,6,7,8,12,13,14,15,16,17,18],
⟨none,none,.store 1 (.t 81) (.t 72),[0,1,2,3,4,5,6,7,8,12,13,14,15,16,17,18,19],(.lone [7,73,74])⟩,
sd 82 (.fieldA 0 (.t 9)) [0,1,2,3,4,5,6,7,8,9,10,11,12,13,14,15,16,17,18,19,20],
sd 83 (.fieldA 4 (.t 82)) [0,1,2,3,4,5,6,7,8,9,10,11,12,13,14,15,16,17,18,19,20,21],
⟨none,none,.store 1 (.t 83) (.t 75),[0,1,2,3,4,5,6,7,8,9,10,11,12,13,14,15,16,17,18,19,20,21,22],(.lone [])⟩])
 (.seq (.sem (.seq (.reg [sq 84 (.fieldA 13 (.t 9)),
sq 85 (.load (some 5) (.t 84)),
sq 86 (.fieldA 13 (.t 7)),
sq 87 (.load (some 5) (.t 86)),
sq 88 (.call 40 [(.t 85),(.t 87)]),
sq 89 (.not (.t 88))])
 (.cond (.t 89)
 (.reg [sq 90 (.fieldA 0 (.t 9)),
sq 91 (.fieldA 5 (.t 90)),
sq 92 (.load none (.t 91)),
sq 93 (.bin .add (.t 92) (kI 1)),
sq 94 (.fieldA 0 (.t 9)),
sq 95 (.fieldA 5 (.t 94)),
⟨none,none,.store 1 (.t 95) (.t 93),[],(.lone [9,90,91,9,94])⟩])
 .skip)))
 (.seq (.seq (.reg [sq 96 (.load (some 23) (.t 9)),
sq 97 (.load (some 23) (.t 7)),
zl 98 (.call 16 [(.t 96),(.t 97)]) [] [9,7]])
 (.cond (.t 98)
 (.seq (.regd [sq 99 (.load (some 6) (.t 2)),
zn 100 (.call 39 [(.t 99)]) [0] [0],
sq 101 (.load (some 23) (.t 7)),
⟨none,none,.store 6 (.t 4) (.t 100),[0,1],(.lone [7])⟩,
⟨none,none,.store 23 (.t 5) (.t 101),[0,1,2,3],(.lone [])⟩,
sd 6 (.mv (kI 0)) [0,1,2,3,4]])
 .ret)
 .skip))
 (.seq (.seq (.reg [sq 102 (.fieldA 0 (.t 2)),
sq 103 (.load none (.t 102)),
sq 104 (.bin .geq (.t 103) (kI 1000000000000000))])
 (.cond (.t 104)
 (.seq (.reg [sq 105 (.load (some 6) (.t 2)),
sq 106 (.call 39 [(.t 105)]),
sq 107 (.build [dS ⟨#[]⟩,dS ⟨#[]⟩,dS ⟨#[]⟩,dI 0,dI 0,dI 0,dI 0,dB false,dI 0,dN,dN,dN,dN,dI 0,dI 0,dS ⟨#[]⟩,dN,dN,dI 0,dI 0,dS ⟨#[]⟩,dN,dN] []),
su (.store 6 (.t 4) (.t 106)),
su (.store 23 (.t 5) (.t 107)),
sq 6 (.mv (kI 15))])
 .ret)
 .skip))
 (.seq (.sem (.reg [sq 108 (.fieldA 0 (.t 2)),
sq 109 (.load none (.t 108)),
sq 110 (.bin .add (.t 109) (kI 1)),
sq 111 (.fieldA 0 (.t 9)),
sq 112 (.fieldA 4 (.t 111)),
⟨none,none,.store 1 (.t 112) (.t 110),[],(.lone [2,108,9,111])⟩]))
 (.seq (.regd [sq 113 (.load (some 6) (.t 2)),
sq 114 (.load (some 23) (.t 9)),
zn 115 (.call 41 [(.t 113),(kI 1),(.t 114)]) [0,1] [0,1],
sq 116 (.load (some 23) (.t 9)),
⟨none,none,.store 6 (.t 4) (.t 115),[0,1,2],(.lone [9])⟩,
⟨none,none,.store 23 (.t 5) (.t 116),[0,1,2,3,4],(.lone [])⟩,
sd 6 (.mv (kI 0)) [0,1,2,3,4,5]])
 .ret)))))))))))⟩
theorem F12_ok{x0 x1 r}(h:F12 x0 x1=some r):CallD Tryz.prog 12 [.agg [dI x0.Rev,dI x0.Floor,dI x0.NextUid,dM (x0.Base.map eObject),dM (x0.Objects.map eObject),dM (x0.History.map eChange)],.agg [dS x1.Meta.Kind,dS x1.Meta.Namespace,dS x1.Meta.Name,dI x1.Meta.Uid,dI x1.Meta.Version,dI x1.Meta.Generation,dI x1.Meta.Created,dB x1.Meta.Deleting,dI x1.Meta.DeleteAt,dM (x1.Meta.Labels.map eLabel),dM (x1.Meta.Owners.map eOwner),dM (x1.Meta.Finalizers.map eS),dM (x1.Meta.Managers.map eManager),dI x1.Spec.Kind,dI x1.Spec.N,dS x1.Spec.S,dM (x1.Spec.List_.map eTValue),dM (x1.Spec.Fields.map eTField),dI x1.Status.Kind,dI x1.Status.N,dS x1.Status.S,dM (x1.Status.List_.map eTValue),dM (x1.Status.Fields.map eTField)]] [] (tupV [.agg [dI r.1,dI r.2.1,dI x0.NextUid,.own 0 0 0 (r.2.2.1.length) none,.own 1 0 0 (r.2.2.2.1.length) none,.own 2 0 0 (r.2.2.2.2.1.length) none],.agg [dS r.2.2.2.2.2.1,dS r.2.2.2.2.2.2.1,dS r.2.2.2.2.2.2.2.1,dI r.2.2.2.2.2.2.2.2.1,dI r.2.2.2.2.2.2.2.2.2.1,dI r.2.2.2.2.2.2.2.2.2.2.1,dI r.2.2.2.2.2.2.2.2.2.2.2.1,dB r.2.2.2.2.2.2.2.2.2.2.2.2.1,dI r.2.2.2.2.2.2.2.2.2.2.2.2.2.1,dM (r.2.2.2.2.2.2.2.2.2.2.2.2.2.2.1.map eLabel),dM (r.2.2.2.2.2.2.2.2.2.2.2.2.2.2.2.1.map eOwner),dM (r.2.2.2.2.2.2.2.2.2.2.2.2.2.2.2.2.1.map eS),dM (r.2.2.2.2.2.2.2.2.2.2.2.2.2.2.2.2.2.1.map eManager),dI r.2.2.2.2.2.2.2.2.2.2.2.2.2.2.2.2.2.2.1,dI r.2.2.2.2.2.2.2.2.2.2.2.2.2.2.2.2.2.2.2.1,dS r.2.2.2.2.2.2.2.2.2.2.2.2.2.2.2.2.2.2.2.2.1,dM (r.2.2.2.2.2.2.2.2.2.2.2.2.2.2.2.2.2.2.2.2.2.1.map eTValue),dM (r.2.2.2.2.2.2.2.2.2.2.2.2.2.2.2.2.2.2.2.2.2.2.1.map eTField),dI r.2.2.2.2.2.2.2.2.2.2.2.2.2.2.2.2.2.2.2.2.2.2.2.1,dI r.2.2.2.2.2.2.2.2.2.2.2.2.2.2.2.2.2.2.2.2.2.2.2.2.1,dS r.2.2.2.2.2.2.2.2.2.2.2.2.2.2.2.2.2.2.2.2.2.2.2.2.2.1,dM (r.2.2.2.2.2.2.2.2.2.2.2.2.2.2.2.2.2.2.2.2.2.2.2.2.2.2.1.map eTValue),dM (r.2.2.2.2.2.2.2.2.2.2.2.2.2.2.2.2.2.2.2.2.2.2.2.2.2.2.2.1.map eTField)],.c (dI r.2.2.2.2.2.2.2.2.2.2.2.2.2.2.2.2.2.2.2.2.2.2.2.2.2.2.2.2)]) [some (.arr 0 23 (r.2.2.1.map eObject)),some (.arr 0 23 (r.2.2.2.1.map eObject)),some (.arr 0 25 (r.2.2.2.2.1.map eChange))]:=by
 rw[F12]at h
 refine zc a12 (by kernel_rfl) rfl (ww ?_)
 obtain⟨t1,ht1,h⟩:=bi h
 refine cN [] (F38_ok ht1) trivial (ww ?_)
 refine condBh h (fun c2 h=>?_) (fun c2 h=>?_)
 ·refine ww ?_
  obtain⟨t3,ht3,h⟩:=bi h
  refine cN [] (F39_ok ht3) trivial (ww ?_)
  cases h
  exact eF [some 4,some 5,some 6]
 refine ww ?_
 obtain⟨t4,ht4,h⟩:=bi h
 refine cN [] (F37_ok ht4) trivial (ww ?_)
 obtain⟨t5,ht5,h⟩:=bi h
 refine cN [] (F10_ok ht5) trivial (ww ?_)
 refine kD_new (by simp[wrs,allW,hset]) (ww ?_)
 refine kD_new (by simp[wrs,allW,hset]) (ww ?_)
 refine condBh h (fun c6 h=>?_) (fun c6 h=>?_)
 ·refine ww ?_
  obtain⟨t7,ht7,h⟩:=bi h
  refine cN [] (F39_ok ht7) trivial (ww ?_)
  cases h
  exact eF [some 9,some 10,some 11]
 refine ww ?_
 obtain⟨o8,ho,h⟩:=bi h
 refine cutS (fun s=>s=⟨[(2,.one (.c (.pt 0 0))),(3,.one (.c (.pt 1 0))),(4,.one (.c (.pt 2 0))),(5,.one (.c (.pt 3 0))),(7,.one (.c (.pt 4 0))),(30,.one (.c (dB o8)))],[some (.box [dI x0.Rev,dI x0.Floor,dI x0.NextUid,dM (x0.Base.map eObject),dM (x0.Objects.map eObject),dM (x0.History.map eChange)]),some (.box [dS x1.Meta.Kind,dS x1.Meta.Namespace,dS x1.Meta.Name,dI x1.Meta.Uid,dI x1.Meta.Version,dI x1.Meta.Generation,dI x1.Meta.Created,dB x1.Meta.Deleting,dI x1.Meta.DeleteAt,dM (x1.Meta.Labels.map eLabel),dM (x1.Meta.Owners.map eOwner),dM (x1.Meta.Finalizers.map eS),dM (x1.Meta.Managers.map eManager),dI x1.Spec.Kind,dI x1.Spec.N,dS x1.Spec.S,dM (x1.Spec.List_.map eTValue),dM (x1.Spec.Fields.map eTField),dI x1.Status.Kind,dI x1.Status.N,dS x1.Status.S,dM (x1.Status.List_.map eTValue),dM (x1.Status.Fields.map eTField)]),some (.box [dI 0,dI 0,dI 0,dN,dN,dN]),some (.box [dS ((⟨#[]⟩:ByteArray)),dS ((⟨#[]⟩:ByteArray)),dS ((⟨#[]⟩:ByteArray)),dI 0,dI 0,dI 0,dI 0,dB false,dI 0,dN,dN,dN,dN,dI 0,dI 0,dS ((⟨#[]⟩:ByteArray)),dN,dN,dI 0,dI 0,dS ((⟨#[]⟩:ByteArray)),dN,dN]),some (.box [dS t5.1,dS t5.2.1,dS t5.2.2.1,dI t5.2.2.2.1,dI t5.2.2.2.2.1,dI t5.2.2.2.2.2.1,dI t5.2.2.2.2.2.2.1,dB t5.2.2.2.2.2.2.2.1,dI t5.2.2.2.2.2.2.2.2.1,.own 5 0 0 (t5.2.2.2.2.2.2.2.2.2.1.length) none,.own 6 0 0 (t5.2.2.2.2.2.2.2.2.2.2.1.length) none,.own 7 0 0 (t5.2.2.2.2.2.2.2.2.2.2.2.1.length) none,.own 8 0 0 (t5.2.2.2.2.2.2.2.2.2.2.2.2.1.length) none,dI t5.2.2.2.2.2.2.2.2.2.2.2.2.2.1,dI t5.2.2.2.2.2.2.2.2.2.2.2.2.2.2.1,dS t5.2.2.2.2.2.2.2.2.2.2.2.2.2.2.2.1,dM (t5.2.2.2.2.2.2.2.2.2.2.2.2.2.2.2.2.1.map eTValue),dM (t5.2.2.2.2.2.2.2.2.2.2.2.2.2.2.2.2.2.1.map eTField),dI t5.2.2.2.2.2.2.2.2.2.2.2.2.2.2.2.2.2.2.1,dI t5.2.2.2.2.2.2.2.2.2.2.2.2.2.2.2.2.2.2.2.1,dS t5.2.2.2.2.2.2.2.2.2.2.2.2.2.2.2.2.2.2.2.2.1,dM (t5.2.2.2.2.2.2.2.2.2.2.2.2.2.2.2.2.2.2.2.2.2.1.map eTValue),dM (t5.2.2.2.2.2.2.2.2.2.2.2.2.2.2.2.2.2.2.2.2.2.2.1.map eTField)]),some (.arr 0 2 (t5.2.2.2.2.2.2.2.2.2.1.map eLabel)),some (.arr 0 5 (t5.2.2.2.2.2.2.2.2.2.2.1.map eOwner)),some (.arr 0 1 (t5.2.2.2.2.2.2.2.2.2.2.2.1.map eS)),some (.arr 0 2 (t5.2.2.2.2.2.2.2.2.2.2.2.2.1.map eManager))]⟩) ?_ ?_
 ·have h:=ho
  clear ho
  refine ww ?_
  refine guardSh h (fun g9 h=>?_) (fun g9 h=>?_)
  ·refine ww ?_
   refine guardSh h (fun g10 h=>?_) (fun g10 h=>?_)
   ·refine ww ?_
    cases h
    exact eM [some 0,some 1,some 2,some 3,some 8,some 4,some 5,some 6,some 7] rfl
   refine ww ?_
   refine guardSh h (fun g11 h=>?_) (fun g11 h=>?_)
   ·refine ww ?_
    cases h
    exact eM [some 0,some 1,some 2,some 3,some 8,some 4,some 5,some 6,some 7] rfl
   refine ww ?_
   cases h
   exact eM [some 0,some 1,some 2,some 3,some 8,some 4,some 5,some 6,some 7] rfl
  refine ww ?_
  refine guardSh h (fun g12 h=>?_) (fun g12 h=>?_)
  ·refine ww ?_
   cases h
   exact eM [some 0,some 1,some 2,some 3,some 8,some 4,some 5,some 6,some 7] rfl
  refine ww ?_
  cases h
  exact eM [some 0,some 1,some 2,some 3,some 8,some 4,some 5,some 6,some 7] rfl
 rintro _ rfl
 clear ho
 refine ww ?_
 refine condBh h (fun c13 h=>?_) (fun c13 h=>?_)
 ·refine ww ?_
  obtain⟨t14,ht14,h⟩:=bi h
  refine cN [] (F39_ok ht14) trivial (ww ?_)
  cases h
  exact eF [some 9,some 10,some 11]
 refine ww ?_
 obtain⟨t15,ht15,h⟩:=bi h
 refine cN [] (F36_ok ht15) trivial (ww ?_)
 obtain⟨o16,ho,h⟩:=bi h
 refine cutS (fun s=>s=⟨[(2,.one (.c (.pt 0 0))),(4,.one (.c (.pt 1 0))),(5,.one (.c (.pt 2 0))),(7,.one (.c (.pt 3 0))),(9,.one (.c (.pt 8 0)))],[some (.box [dI x0.Rev,dI x0.Floor,dI x0.NextUid,dM (x0.Base.map eObject),dM (x0.Objects.map eObject),dM (x0.History.map eChange)]),some (.box [dI 0,dI 0,dI 0,dN,dN,dN]),some (.box [dS ((⟨#[]⟩:ByteArray)),dS ((⟨#[]⟩:ByteArray)),dS ((⟨#[]⟩:ByteArray)),dI 0,dI 0,dI 0,dI 0,dB false,dI 0,dN,dN,dN,dN,dI 0,dI 0,dS ((⟨#[]⟩:ByteArray)),dN,dN,dI 0,dI 0,dS ((⟨#[]⟩:ByteArray)),dN,dN]),some (.box [dS t5.1,dS t5.2.1,dS t5.2.2.1,dI t5.2.2.2.1,dI t5.2.2.2.2.1,dI t5.2.2.2.2.2.1,dI t5.2.2.2.2.2.2.1,dB t5.2.2.2.2.2.2.2.1,dI t5.2.2.2.2.2.2.2.2.1,.own 4 0 0 (t5.2.2.2.2.2.2.2.2.2.1.length) none,.own 5 0 0 (t5.2.2.2.2.2.2.2.2.2.2.1.length) none,.own 6 0 0 (t5.2.2.2.2.2.2.2.2.2.2.2.1.length) none,.own 7 0 0 (t5.2.2.2.2.2.2.2.2.2.2.2.2.1.length) none,dI t5.2.2.2.2.2.2.2.2.2.2.2.2.2.1,dI t5.2.2.2.2.2.2.2.2.2.2.2.2.2.2.1,dS t5.2.2.2.2.2.2.2.2.2.2.2.2.2.2.2.1,dM (t5.2.2.2.2.2.2.2.2.2.2.2.2.2.2.2.2.1.map eTValue),dM (t5.2.2.2.2.2.2.2.2.2.2.2.2.2.2.2.2.2.1.map eTField),dI t5.2.2.2.2.2.2.2.2.2.2.2.2.2.2.2.2.2.2.1,dI t5.2.2.2.2.2.2.2.2.2.2.2.2.2.2.2.2.2.2.2.1,dS t5.2.2.2.2.2.2.2.2.2.2.2.2.2.2.2.2.2.2.2.2.1,dM (t5.2.2.2.2.2.2.2.2.2.2.2.2.2.2.2.2.2.2.2.2.2.1.map eTValue),dM (t5.2.2.2.2.2.2.2.2.2.2.2.2.2.2.2.2.2.2.2.2.2.2.1.map eTField)]),some (.arr 0 2 (t5.2.2.2.2.2.2.2.2.2.1.map eLabel)),some (.arr 0 5 (t5.2.2.2.2.2.2.2.2.2.2.1.map eOwner)),some (.arr 0 1 (t5.2.2.2.2.2.2.2.2.2.2.2.1.map eS)),some (.arr 0 2 (t5.2.2.2.2.2.2.2.2.2.2.2.2.1.map eManager)),some (.box [dS x1.Meta.Kind,dS x1.Meta.Namespace,dS x1.Meta.Name,dI t5.2.2.2.1,dI t5.2.2.2.2.1,dI o16,dI t5.2.2.2.2.2.2.1,dB x1.Meta.Deleting,dI x1.Meta.DeleteAt,.own 9 0 0 (t15.1.length) none,.own 10 0 0 (t15.2.1.length) none,.own 11 0 0 (t15.2.2.1.length) none,.own 12 0 0 (t15.2.2.2.1.length) none,dI t15.2.2.2.2.1,dI t15.2.2.2.2.2.1,dS t15.2.2.2.2.2.2.1,dM (t15.2.2.2.2.2.2.2.1.map eTValue),dM (t15.2.2.2.2.2.2.2.2.1.map eTField),dI t15.2.2.2.2.2.2.2.2.2.1,dI t15.2.2.2.2.2.2.2.2.2.2.1,dS t15.2.2.2.2.2.2.2.2.2.2.2.1,dM (t15.2.2.2.2.2.2.2.2.2.2.2.2.1.map eTValue),dM (t15.2.2.2.2.2.2.2.2.2.2.2.2.2.map eTField)]),some (.arr 0 2 (t15.1.map eLabel)),some (.arr 0 5 (t15.2.1.map eOwner)),some (.arr 0 1 (t15.2.2.1.map eS)),some (.arr 0 2 (t15.2.2.2.1.map eManager))]⟩) ?_ ?_
 ·have h:=ho
  clear ho
  refine ww ?_
  obtain⟨t17,ht17,h⟩:=bi h
  refine cN [] (F40_ok ht17) trivial (ww ?_)
  refine condBh h (fun c18 h=>?_) (fun c18 h=>?_)
  ·refine ww ?_
   cases h
   exact eM [some 0,some 2,some 3,some 4,some 5,some 6,some 7,some 8,some 13,some 9,some 10,some 11,some 12] rfl
  refine ww ?_
  cases h
  exact eM [some 0,some 2,some 3,some 4,some 5,some 6,some 7,some 8,some 13,some 9,some 10,some 11,some 12] rfl
 rintro _ rfl
 clear ho
 refine ww ?_
 obtain⟨t19,ht19,h⟩:=bi h
 refine callX_bor (F16_ok ht19) (by simp only[borAs,bors,hp,List.getElem?_cons_zero,List.getElem?_cons_succ,Option.join_some,List.drop_zero,bor_full',true_and,Nat.zero_add,List.length_map,Nat.le_refl,nrm,List.length_cons,List.length_nil,Nat.reduceAdd,Nat.reduceLeDiff,List.take_succ_cons,List.take_zero,List.take_nil,List.map_cons,List.map_nil,List.length_set,EE.down]) rfl ?_
 refine ww ?_
 refine condBh h (fun c20 h=>?_) (fun c20 h=>?_)
 ·refine ww ?_
  obtain⟨t21,ht21,h⟩:=bi h
  refine cN [] (F39_ok ht21) trivial (ww ?_)
  refine kD_new (by simp[wrs,allW,hset]) (ww ?_)
  cases h
  exact eF [some 13,some 14,some 15]
 refine ww ?_
 refine condSh h (fun c22 h=>?_) (fun c22 h=>?_)
 ·refine ww ?_
  obtain⟨t23,ht23,h⟩:=bi h
  refine cN [] (F39_ok ht23) trivial (ww ?_)
  cases h
  exact eF [some 13,some 14,some 15]
 refine ww ?_
 obtain⟨o24,ho,h⟩:=bi h
 refine cutS (fun s=>s=⟨[(2,.one (.c (.pt 0 0))),(4,.one (.c (.pt 1 0))),(5,.one (.c (.pt 2 0))),(9,.one (.c (.pt 3 0)))],[some (.box [dI x0.Rev,dI x0.Floor,dI x0.NextUid,dM (x0.Base.map eObject),dM (x0.Objects.map eObject),dM (x0.History.map eChange)]),some (.box [dI 0,dI 0,dI 0,dN,dN,dN]),some (.box [dS ((⟨#[]⟩:ByteArray)),dS ((⟨#[]⟩:ByteArray)),dS ((⟨#[]⟩:ByteArray)),dI 0,dI 0,dI 0,dI 0,dB false,dI 0,dN,dN,dN,dN,dI 0,dI 0,dS ((⟨#[]⟩:ByteArray)),dN,dN,dI 0,dI 0,dS ((⟨#[]⟩:ByteArray)),dN,dN]),some (.box [dS x1.Meta.Kind,dS x1.Meta.Namespace,dS x1.Meta.Name,dI t5.2.2.2.1,dI ((IntKind.i64.wrap (x0.Rev+1))),dI o16,dI t5.2.2.2.2.2.2.1,dB x1.Meta.Deleting,dI x1.Meta.DeleteAt,dM (t15.1.map eLabel),dM (t15.2.1.map eOwner),dM (t15.2.2.1.map eS),dM (t15.2.2.2.1.map eManager),dI t15.2.2.2.2.1,dI t15.2.2.2.2.2.1,dS t15.2.2.2.2.2.2.1,dM (t15.2.2.2.2.2.2.2.1.map eTValue),dM (t15.2.2.2.2.2.2.2.2.1.map eTField),dI t15.2.2.2.2.2.2.2.2.2.1,dI t15.2.2.2.2.2.2.2.2.2.2.1,dS t15.2.2.2.2.2.2.2.2.2.2.2.1,dM (t15.2.2.2.2.2.2.2.2.2.2.2.2.1.map eTValue),dM (t15.2.2.2.2.2.2.2.2.2.2.2.2.2.map eTField)])]⟩) ?_ ?_
 ·have h:=ho
  clear ho
  refine ww ?_
  cases h
  exact eM [some 0,some 1,some 2,some 8] rfl
 rintro _ rfl
 clear ho
 refine ww ?_
 obtain⟨t25,ht25,h⟩:=bi h
 refine cN [] (F41_ok ht25) trivial (ww ?_)
 refine kD_new (by simp[wrs,allW,hset]) (ww ?_)
 cases h
 exact eF [some 4,some 5,some 6]
def F13(x0:TStore)(x1:ByteArray)(x2:Int):Option (Int×Int×(List Object)×(List Object)×(List Change)×Object×Int):=(F10 x0 x1).bind fun t1=>(if(nb t1.2.2.2.2.2.2.2.2.2.2.2.2.2.2.2.2.2.2.2.2.2.2.2)=true then(F39 x0).bind fun t3=>some ((x0.Rev,x0.Floor,t3.1,t3.2.1,t3.2.2,(⟨(⟨(⟨#[]⟩:ByteArray),(⟨#[]⟩:ByteArray),(⟨#[]⟩:ByteArray),0,0,0,0,false,0,[],[],[],[]⟩:Meta),(⟨0,0,(⟨#[]⟩:ByteArray),[],[]⟩:TValue),(⟨0,0,(⟨#[]⟩:ByteArray),[],[]⟩:TValue)⟩:Object),7))else(((if¬(x2=0)then some (decide (¬(x2=t1.2.2.2.2.1)))else some false)).bind fun o4=>(if o4=true then(F39 x0).bind fun t7=>some ((x0.Rev,x0.Floor,t7.1,t7.2.1,t7.2.2,(⟨(⟨(⟨#[]⟩:ByteArray),(⟨#[]⟩:ByteArray),(⟨#[]⟩:ByteArray),0,0,0,0,false,0,[],[],[],[]⟩:Meta),(⟨0,0,(⟨#[]⟩:ByteArray),[],[]⟩:TValue),(⟨0,0,(⟨#[]⟩:ByteArray),[],[]⟩:TValue)⟩:Object),9))else(if 1000000000000000≤x0.Rev then(F39 x0).bind fun t9=>some ((x0.Rev,x0.Floor,t9.1,t9.2.1,t9.2.2,(⟨(⟨(⟨#[]⟩:ByteArray),(⟨#[]⟩:ByteArray),(⟨#[]⟩:ByteArray),0,0,0,0,false,0,[],[],[],[]⟩:Meta),(⟨0,0,(⟨#[]⟩:ByteArray),[],[]⟩:TValue),(⟨0,0,(⟨#[]⟩:ByteArray),[],[]⟩:TValue)⟩:Object),15))else((some (())).bind fun o10=>(F41 x0 2 ((⟨(⟨t1.1,t1.2.1,t1.2.2.1,t1.2.2.2.1,(IntKind.i64.wrap (x0.Rev+1)),t1.2.2.2.2.2.1,t1.2.2.2.2.2.2.1,t1.2.2.2.2.2.2.2.1,t1.2.2.2.2.2.2.2.2.1,t1.2.2.2.2.2.2.2.2.2.1,t1.2.2.2.2.2.2.2.2.2.2.1,t1.2.2.2.2.2.2.2.2.2.2.2.1,t1.2.2.2.2.2.2.2.2.2.2.2.2.1⟩:Meta),(⟨t1.2.2.2.2.2.2.2.2.2.2.2.2.2.1,t1.2.2.2.2.2.2.2.2.2.2.2.2.2.2.1,t1.2.2.2.2.2.2.2.2.2.2.2.2.2.2.2.1,t1.2.2.2.2.2.2.2.2.2.2.2.2.2.2.2.2.1,t1.2.2.2.2.2.2.2.2.2.2.2.2.2.2.2.2.2.1⟩:TValue),(⟨t1.2.2.2.2.2.2.2.2.2.2.2.2.2.2.2.2.2.2.1,t1.2.2.2.2.2.2.2.2.2.2.2.2.2.2.2.2.2.2.2.1,t1.2.2.2.2.2.2.2.2.2.2.2.2.2.2.2.2.2.2.2.2.1,t1.2.2.2.2.2.2.2.2.2.2.2.2.2.2.2.2.2.2.2.2.2.1,t1.2.2.2.2.2.2.2.2.2.2.2.2.2.2.2.2.2.2.2.2.2.2.1⟩:TValue)⟩:Object))).bind fun t11=>some ((t11.1,t11.2.1,t11.2.2.1,t11.2.2.2.1,t11.2.2.2.2,(⟨(⟨t1.1,t1.2.1,t1.2.2.1,t1.2.2.2.1,(IntKind.i64.wrap (x0.Rev+1)),t1.2.2.2.2.2.1,t1.2.2.2.2.2.2.1,t1.2.2.2.2.2.2.2.1,t1.2.2.2.2.2.2.2.2.1,t1.2.2.2.2.2.2.2.2.2.1,t1.2.2.2.2.2.2.2.2.2.2.1,t1.2.2.2.2.2.2.2.2.2.2.2.1,t1.2.2.2.2.2.2.2.2.2.2.2.2.1⟩:Meta),(⟨t1.2.2.2.2.2.2.2.2.2.2.2.2.2.1,t1.2.2.2.2.2.2.2.2.2.2.2.2.2.2.1,t1.2.2.2.2.2.2.2.2.2.2.2.2.2.2.2.1,t1.2.2.2.2.2.2.2.2.2.2.2.2.2.2.2.2.1,t1.2.2.2.2.2.2.2.2.2.2.2.2.2.2.2.2.2.1⟩:TValue),(⟨t1.2.2.2.2.2.2.2.2.2.2.2.2.2.2.2.2.2.2.1,t1.2.2.2.2.2.2.2.2.2.2.2.2.2.2.2.2.2.2.2.1,t1.2.2.2.2.2.2.2.2.2.2.2.2.2.2.2.2.2.2.2.2.1,t1.2.2.2.2.2.2.2.2.2.2.2.2.2.2.2.2.2.2.2.2.2.1,t1.2.2.2.2.2.2.2.2.2.2.2.2.2.2.2.2.2.2.2.2.2.2.1⟩:TValue)⟩:Object),0)))))))
def a13:AFn:=⟨52,[(.cell 6 (some 6)),(.cell 7 (some 23)),(.tmp 8)],
 (.seq (.reg [sq 3 (.box (.t 0)),
sq 6 (.zbox [dI 0,dI 0,dI 0,dN,dN,dN]),
sq 7 (.zbox [dS ⟨#[]⟩,dS ⟨#[]⟩,dS ⟨#[]⟩,dI 0,dI 0,dI 0,dI 0,dB false,dI 0,dN,dN,dN,dN,dI 0,dI 0,dS ⟨#[]⟩,dN,dN,dI 0,dI 0,dS ⟨#[]⟩,dN,dN]),
sq 8 (.mv (kI 0))])
 (.seq (.reg [sq 12 (.load (some 6) (.t 3)),
sq 13 (.mv (.t 1)),
sq 14 (.call 10 [(.t 12),(.t 13)]),
sq 11 (.mv (.t 14)),
sq 15 (.ext (.t 11) 0),
sq 16 (.ext (.t 11) 1),
sq 9 (.zbox [dS ⟨#[]⟩,dS ⟨#[]⟩,dS ⟨#[]⟩,dI 0,dI 0,dI 0,dI 0,dB false,dI 0,dN,dN,dN,dN,dI 0,dI 0,dS ⟨#[]⟩,dN,dN,dI 0,dI 0,dS ⟨#[]⟩,dN,dN]),
su (.store 23 (.t 9) (.t 15)),
sq 10 (.mv (.t 16))])
 (.seq (.block 0 (.seq (.reg [sq 18 (.mv (.t 10)),
sq 19 (.not (.t 18)),
sq 17 (.mv (.t 19))])
 (.cond (.t 17)
 (.seq (.reg [sq 20 (.load (some 6) (.t 3)),
sq 21 (.call 39 [(.t 20)]),
sq 22 (.build [dS ⟨#[]⟩,dS ⟨#[]⟩,dS ⟨#[]⟩,dI 0,dI 0,dI 0,dI 0,dB false,dI 0,dN,dN,dN,dN,dI 0,dI 0,dS ⟨#[]⟩,dN,dN,dI 0,dI 0,dS ⟨#[]⟩,dN,dN] []),
su (.store 6 (.t 6) (.t 21)),
su (.store 23 (.t 7) (.t 22)),
sq 8 (.mv (kI 7))])
 .ret)
 (.seq (.sem (.reg [sq 24 (.mv (.t 2)),
sq 25 (.bin .neq (.t 24) (kI 0)),
sq 26 (.mv (.t 25)),
zg 27 26 true (.mv (.t 2)),
zg 28 26 true (.fieldA 0 (.t 9)),
zg 29 26 true (.fieldA 4 (.t 28)),
zg 30 26 true (.load none (.t 29)),
zg 31 26 true (.bin .neq (.t 27) (.t 30)),
sq 32 (.pick (.t 26) (.t 31) (kB false)),
sq 23 (.mv (.t 32))]))
 (.cond (.t 23)
 (.seq (.reg [sq 33 (.load (some 6) (.t 3)),
sq 34 (.call 39 [(.t 33)]),
sq 35 (.build [dS ⟨#[]⟩,dS ⟨#[]⟩,dS ⟨#[]⟩,dI 0,dI 0,dI 0,dI 0,dB false,dI 0,dN,dN,dN,dN,dI 0,dI 0,dS ⟨#[]⟩,dN,dN,dI 0,dI 0,dS ⟨#[]⟩,dN,dN] []),
su (.store 6 (.t 6) (.t 34)),
su (.store 23 (.t 7) (.t 35)),
sq 8 (.mv (kI 9))])
 .ret)
 (.seq (.reg [sq 37 (.fieldA 0 (.t 3)),
sq 38 (.load none (.t 37)),
sq 39 (.bin .geq (.t 38) (kI 1000000000000000)),
sq 36 (.mv (.t 39))])
 (.cond (.t 36)
 (.seq (.reg [sq 40 (.load (some 6) (.t 3)),
sq 41 (.call 39 [(.t 40)]),
sq 42 (.build [dS ⟨#[]⟩,dS ⟨#[]⟩,dS ⟨#[]⟩,dI 0,dI 0,dI 0,dI 0,dB false,dI 0,dN,dN,dN,dN,dI 0,dI 0,dS ⟨#[]⟩,dN,dN,dI 0,dI 0,dS ⟨#[]⟩,dN,dN] []),
su (.store 6 (.t 6) (.t 41)),
su (.store 23 (.t 7) (.t 42)),
sq 8 (.mv (kI 15))])
 .ret)
 .skip)))))))
 (.seq (.sem (.reg [sq 43 (.fieldA 0 (.t 3)),
sq 44 (.load none (.t 43)),
sq 45 (.bin .add (.t 44) (kI 1)),
sq 46 (.fieldA 0 (.t 9)),
sq 47 (.fieldA 4 (.t 46)),
⟨none,none,.store 1 (.t 47) (.t 45),[],(.lone [3,43,9,46])⟩]))
 (.seq (.regd [sq 48 (.load (some 6) (.t 3)),
sq 49 (.load (some 23) (.t 9)),
zn 50 (.call 41 [(.t 48),(kI 2),(.t 49)]) [0,1] [0,1],
sq 51 (.load (some 23) (.t 9)),
⟨none,none,.store 6 (.t 6) (.t 50),[0,1,2],(.lone [9])⟩,
⟨none,none,.store 23 (.t 7) (.t 51),[0,1,2,3,4],(.lone [])⟩,
sd 8 (.mv (kI 0)) [0,1,2,3,4,5]])
 .ret)))))⟩
theorem F13_ok{x0 x1 x2 r}(h:F13 x0 x1 x2=some r):CallD Tryz.prog 13 [.agg [dI x0.Rev,dI x0.Floor,dI x0.NextUid,dM (x0.Base.map eObject),dM (x0.Objects.map eObject),dM (x0.History.map eChange)],.c (dS x1),.c (dI x2)] [] (tupV [.agg [dI r.1,dI r.2.1,dI x0.NextUid,.own 0 0 0 (r.2.2.1.length) none,.own 1 0 0 (r.2.2.2.1.length) none,.own 2 0 0 (r.2.2.2.2.1.length) none],.agg [dS ((r.2.2.2.2.2.1).Meta.Kind),dS ((r.2.2.2.2.2.1).Meta.Namespace),dS ((r.2.2.2.2.2.1).Meta.Name),dI ((r.2.2.2.2.2.1).Meta.Uid),dI ((r.2.2.2.2.2.1).Meta.Version),dI ((r.2.2.2.2.2.1).Meta.Generation),dI ((r.2.2.2.2.2.1).Meta.Created),dB ((r.2.2.2.2.2.1).Meta.Deleting),dI ((r.2.2.2.2.2.1).Meta.DeleteAt),dM (((r.2.2.2.2.2.1).Meta.Labels).map eLabel),dM (((r.2.2.2.2.2.1).Meta.Owners).map eOwner),dM (((r.2.2.2.2.2.1).Meta.Finalizers).map eS),dM (((r.2.2.2.2.2.1).Meta.Managers).map eManager),dI ((r.2.2.2.2.2.1).Spec.Kind),dI ((r.2.2.2.2.2.1).Spec.N),dS ((r.2.2.2.2.2.1).Spec.S),dM (((r.2.2.2.2.2.1).Spec.List_).map eTValue),dM (((r.2.2.2.2.2.1).Spec.Fields).map eTField),dI ((r.2.2.2.2.2.1).Status.Kind),dI ((r.2.2.2.2.2.1).Status.N),dS ((r.2.2.2.2.2.1).Status.S),dM (((r.2.2.2.2.2.1).Status.List_).map eTValue),dM (((r.2.2.2.2.2.1).Status.Fields).map eTField)],.c (dI r.2.2.2.2.2.2)]) [some (.arr 0 23 (r.2.2.1.map eObject)),some (.arr 0 23 (r.2.2.2.1.map eObject)),some (.arr 0 25 (r.2.2.2.2.1.map eChange))]:=by
 rw[F13]at h
 refine zc a13 (by kernel_rfl) rfl (ww ?_)
 obtain⟨t1,ht1,h⟩:=bi h
 refine cN [] (F10_ok ht1) trivial (ww ?_)
 refine condBh h (fun c2 h=>?_) (fun c2 h=>?_)
 ·refine ww ?_
  obtain⟨t3,ht3,h⟩:=bi h
  refine cN [] (F39_ok ht3) trivial (ww ?_)
  cases h
  exact eF [some 8,some 9,some 10]
 refine ww ?_
 obtain⟨o4,ho,h⟩:=bi h
 refine cutS (fun s=>s=⟨[(3,.one (.c (.pt 0 0))),(6,.one (.c (.pt 1 0))),(7,.one (.c (.pt 2 0))),(9,.one (.c (.pt 3 0))),(23,.one (.c (dB o4)))],[some (.box [dI x0.Rev,dI x0.Floor,dI x0.NextUid,dM (x0.Base.map eObject),dM (x0.Objects.map eObject),dM (x0.History.map eChange)]),some (.box [dI 0,dI 0,dI 0,dN,dN,dN]),some (.box [dS ((⟨#[]⟩:ByteArray)),dS ((⟨#[]⟩:ByteArray)),dS ((⟨#[]⟩:ByteArray)),dI 0,dI 0,dI 0,dI 0,dB false,dI 0,dN,dN,dN,dN,dI 0,dI 0,dS ((⟨#[]⟩:ByteArray)),dN,dN,dI 0,dI 0,dS ((⟨#[]⟩:ByteArray)),dN,dN]),some (.box [dS t1.1,dS t1.2.1,dS t1.2.2.1,dI t1.2.2.2.1,dI t1.2.2.2.2.1,dI t1.2.2.2.2.2.1,dI t1.2.2.2.2.2.2.1,dB t1.2.2.2.2.2.2.2.1,dI t1.2.2.2.2.2.2.2.2.1,.own 4 0 0 (t1.2.2.2.2.2.2.2.2.2.1.length) none,.own 5 0 0 (t1.2.2.2.2.2.2.2.2.2.2.1.length) none,.own 6 0 0 (t1.2.2.2.2.2.2.2.2.2.2.2.1.length) none,.own 7 0 0 (t1.2.2.2.2.2.2.2.2.2.2.2.2.1.length) none,dI t1.2.2.2.2.2.2.2.2.2.2.2.2.2.1,dI t1.2.2.2.2.2.2.2.2.2.2.2.2.2.2.1,dS t1.2.2.2.2.2.2.2.2.2.2.2.2.2.2.2.1,dM (t1.2.2.2.2.2.2.2.2.2.2.2.2.2.2.2.2.1.map eTValue),dM (t1.2.2.2.2.2.2.2.2.2.2.2.2.2.2.2.2.2.1.map eTField),dI t1.2.2.2.2.2.2.2.2.2.2.2.2.2.2.2.2.2.2.1,dI t1.2.2.2.2.2.2.2.2.2.2.2.2.2.2.2.2.2.2.2.1,dS t1.2.2.2.2.2.2.2.2.2.2.2.2.2.2.2.2.2.2.2.2.1,dM (t1.2.2.2.2.2.2.2.2.2.2.2.2.2.2.2.2.2.2.2.2.2.1.map eTValue),dM (t1.2.2.2.2.2.2.2.2.2.2.2.2.2.2.2.2.2.2.2.2.2.2.1.map eTField)]),some (.arr 0 2 (t1.2.2.2.2.2.2.2.2.2.1.map eLabel)),some (.arr 0 5 (t1.2.2.2.2.2.2.2.2.2.2.1.map eOwner)),some (.arr 0 1 (t1.2.2.2.2.2.2.2.2.2.2.2.1.map eS)),some (.arr 0 2 (t1.2.2.2.2.2.2.2.2.2.2.2.2.1.map eManager))]⟩) ?_ ?_
 ·have h:=ho
  clear ho
  refine ww ?_
  refine guardSh h (fun g5 h=>?_) (fun g5 h=>?_)
  ·refine ww ?_
   cases h
   exact eM [some 0,some 1,some 2,some 7,some 3,some 4,some 5,some 6] rfl
  refine ww ?_
  cases h
  exact eM [some 0,some 1,some 2,some 7,some 3,some 4,some 5,some 6] rfl
 rintro _ rfl
 clear ho
 refine ww ?_
 refine condBh h (fun c6 h=>?_) (fun c6 h=>?_)
 ·refine ww ?_
  obtain⟨t7,ht7,h⟩:=bi h
  refine cN [] (F39_ok ht7) trivial (ww ?_)
  cases h
  exact eF [some 8,some 9,some 10]
 refine ww ?_
 refine condSh h (fun c8 h=>?_) (fun c8 h=>?_)
 ·refine ww ?_
  obtain⟨t9,ht9,h⟩:=bi h
  refine cN [] (F39_ok ht9) trivial (ww ?_)
  cases h
  exact eF [some 8,some 9,some 10]
 refine ww ?_
 obtain⟨o10,ho,h⟩:=bi h
 refine cutS (fun s=>s=⟨[(3,.one (.c (.pt 0 0))),(6,.one (.c (.pt 1 0))),(7,.one (.c (.pt 2 0))),(9,.one (.c (.pt 3 0)))],[some (.box [dI x0.Rev,dI x0.Floor,dI x0.NextUid,dM (x0.Base.map eObject),dM (x0.Objects.map eObject),dM (x0.History.map eChange)]),some (.box [dI 0,dI 0,dI 0,dN,dN,dN]),some (.box [dS ((⟨#[]⟩:ByteArray)),dS ((⟨#[]⟩:ByteArray)),dS ((⟨#[]⟩:ByteArray)),dI 0,dI 0,dI 0,dI 0,dB false,dI 0,dN,dN,dN,dN,dI 0,dI 0,dS ((⟨#[]⟩:ByteArray)),dN,dN,dI 0,dI 0,dS ((⟨#[]⟩:ByteArray)),dN,dN]),some (.box [dS t1.1,dS t1.2.1,dS t1.2.2.1,dI t1.2.2.2.1,dI ((IntKind.i64.wrap (x0.Rev+1))),dI t1.2.2.2.2.2.1,dI t1.2.2.2.2.2.2.1,dB t1.2.2.2.2.2.2.2.1,dI t1.2.2.2.2.2.2.2.2.1,dM (t1.2.2.2.2.2.2.2.2.2.1.map eLabel),dM (t1.2.2.2.2.2.2.2.2.2.2.1.map eOwner),dM (t1.2.2.2.2.2.2.2.2.2.2.2.1.map eS),dM (t1.2.2.2.2.2.2.2.2.2.2.2.2.1.map eManager),dI t1.2.2.2.2.2.2.2.2.2.2.2.2.2.1,dI t1.2.2.2.2.2.2.2.2.2.2.2.2.2.2.1,dS t1.2.2.2.2.2.2.2.2.2.2.2.2.2.2.2.1,dM (t1.2.2.2.2.2.2.2.2.2.2.2.2.2.2.2.2.1.map eTValue),dM (t1.2.2.2.2.2.2.2.2.2.2.2.2.2.2.2.2.2.1.map eTField),dI t1.2.2.2.2.2.2.2.2.2.2.2.2.2.2.2.2.2.2.1,dI t1.2.2.2.2.2.2.2.2.2.2.2.2.2.2.2.2.2.2.2.1,dS t1.2.2.2.2.2.2.2.2.2.2.2.2.2.2.2.2.2.2.2.2.1,dM (t1.2.2.2.2.2.2.2.2.2.2.2.2.2.2.2.2.2.2.2.2.2.1.map eTValue),dM (t1.2.2.2.2.2.2.2.2.2.2.2.2.2.2.2.2.2.2.2.2.2.2.1.map eTField)])]⟩) ?_ ?_
 ·have h:=ho
  clear ho
  refine ww ?_
  cases h
  exact eM [some 0,some 1,some 2,some 3] rfl
 rintro _ rfl
 clear ho
 refine ww ?_
 obtain⟨t11,ht11,h⟩:=bi h
 refine cN [] (F41_ok ht11) trivial (ww ?_)
 refine kD_new (by simp[wrs,allW,hset]) (ww ?_)
 cases h
 exact eF [some 4,some 5,some 6]
def F8:Option (Bool):=(F20).bind fun t1=>(F33 ((⟨#[97]⟩:ByteArray)) 1).bind fun t2=>(F32 ((⟨0,0,1,[],[],[]⟩:TStore)) ((⟨(⟨(⟨#[80,111,100]⟩:ByteArray),(⟨#[110]⟩:ByteArray),((⟨#[97]⟩:ByteArray)),0,0,0,0,false,0,[],[],[],[]⟩:Meta),(⟨2,(1:Int),(⟨#[]⟩:ByteArray),[],[]⟩:TValue),(⟨0,0,(⟨#[]⟩:ByteArray),[],[]⟩:TValue)⟩:Object)) 5).bind fun t3=>(((F12 ((⟨t3.1,t3.2.1,t3.2.2.1,t3.2.2.2.1,t3.2.2.2.2.1,t3.2.2.2.2.2.1⟩:TStore)) ((⟨(⟨(t3.2.2.2.2.2.2.1).Meta.Kind,(t3.2.2.2.2.2.2.1).Meta.Namespace,(t3.2.2.2.2.2.2.1).Meta.Name,(t3.2.2.2.2.2.2.1).Meta.Uid,(t3.2.2.2.2.2.2.1).Meta.Version,(t3.2.2.2.2.2.2.1).Meta.Generation,(t3.2.2.2.2.2.2.1).Meta.Created,(t3.2.2.2.2.2.2.1).Meta.Deleting,(t3.2.2.2.2.2.2.1).Meta.DeleteAt,(t3.2.2.2.2.2.2.1).Meta.Labels,(t3.2.2.2.2.2.2.1).Meta.Owners,(t3.2.2.2.2.2.2.1).Meta.Finalizers,(t3.2.2.2.2.2.2.1).Meta.Managers⟩:Meta),(⟨2,2,(⟨#[]⟩:ByteArray),[],[]⟩:TValue),(⟨(t3.2.2.2.2.2.2.1).Status.Kind,(t3.2.2.2.2.2.2.1).Status.N,(t3.2.2.2.2.2.2.1).Status.S,(t3.2.2.2.2.2.2.1).Status.List_,(t3.2.2.2.2.2.2.1).Status.Fields⟩:TValue)⟩:Object))).bind fun t5=>some ((t5.1,t5.2.1,t5.2.2.1,t5.2.2.2.1,t5.2.2.2.2.1,(⟨(⟨t5.2.2.2.2.2.1,t5.2.2.2.2.2.2.1,t5.2.2.2.2.2.2.2.1,t5.2.2.2.2.2.2.2.2.1,t5.2.2.2.2.2.2.2.2.2.1,t5.2.2.2.2.2.2.2.2.2.2.1,t5.2.2.2.2.2.2.2.2.2.2.2.1,t5.2.2.2.2.2.2.2.2.2.2.2.2.1,t5.2.2.2.2.2.2.2.2.2.2.2.2.2.1,t5.2.2.2.2.2.2.2.2.2.2.2.2.2.2.1,t5.2.2.2.2.2.2.2.2.2.2.2.2.2.2.2.1,t5.2.2.2.2.2.2.2.2.2.2.2.2.2.2.2.2.1,t5.2.2.2.2.2.2.2.2.2.2.2.2.2.2.2.2.2.1⟩:Meta),(⟨t5.2.2.2.2.2.2.2.2.2.2.2.2.2.2.2.2.2.2.1,t5.2.2.2.2.2.2.2.2.2.2.2.2.2.2.2.2.2.2.2.1,t5.2.2.2.2.2.2.2.2.2.2.2.2.2.2.2.2.2.2.2.2.1,t5.2.2.2.2.2.2.2.2.2.2.2.2.2.2.2.2.2.2.2.2.2.1,t5.2.2.2.2.2.2.2.2.2.2.2.2.2.2.2.2.2.2.2.2.2.2.1⟩:TValue),(⟨t5.2.2.2.2.2.2.2.2.2.2.2.2.2.2.2.2.2.2.2.2.2.2.2.1,t5.2.2.2.2.2.2.2.2.2.2.2.2.2.2.2.2.2.2.2.2.2.2.2.2.1,t5.2.2.2.2.2.2.2.2.2.2.2.2.2.2.2.2.2.2.2.2.2.2.2.2.2.1,t5.2.2.2.2.2.2.2.2.2.2.2.2.2.2.2.2.2.2.2.2.2.2.2.2.2.2.1,t5.2.2.2.2.2.2.2.2.2.2.2.2.2.2.2.2.2.2.2.2.2.2.2.2.2.2.2.1⟩:TValue)⟩:Object),t5.2.2.2.2.2.2.2.2.2.2.2.2.2.2.2.2.2.2.2.2.2.2.2.2.2.2.2.2))).bind fun o4=>(F12 ((⟨o4.1,o4.2.1,t3.2.2.1,o4.2.2.1,o4.2.2.2.1,o4.2.2.2.2.1⟩:TStore)) ((⟨(⟨(t3.2.2.2.2.2.2.1).Meta.Kind,(t3.2.2.2.2.2.2.1).Meta.Namespace,(t3.2.2.2.2.2.2.1).Meta.Name,(t3.2.2.2.2.2.2.1).Meta.Uid,(t3.2.2.2.2.2.2.1).Meta.Version,(t3.2.2.2.2.2.2.1).Meta.Generation,(t3.2.2.2.2.2.2.1).Meta.Created,(t3.2.2.2.2.2.2.1).Meta.Deleting,(t3.2.2.2.2.2.2.1).Meta.DeleteAt,(t3.2.2.2.2.2.2.1).Meta.Labels,(t3.2.2.2.2.2.2.1).Meta.Owners,(t3.2.2.2.2.2.2.1).Meta.Finalizers,(t3.2.2.2.2.2.2.1).Meta.Managers⟩:Meta),(⟨2,2,(⟨#[]⟩:ByteArray),[],[]⟩:TValue),(⟨(t3.2.2.2.2.2.2.1).Status.Kind,(t3.2.2.2.2.2.2.1).Status.N,(t3.2.2.2.2.2.2.1).Status.S,(t3.2.2.2.2.2.2.1).Status.List_,(t3.2.2.2.2.2.2.1).Status.Fields⟩:TValue)⟩:Object))).bind fun t6=>(F25 ((⟨o4.1,o4.2.1,t3.2.2.1,o4.2.2.1,o4.2.2.2.1,o4.2.2.2.2.1⟩:TStore)) 1).bind fun t7=>(F13 ((⟨o4.1,o4.2.1,t3.2.2.1,o4.2.2.1,o4.2.2.2.1,o4.2.2.2.2.1⟩:TStore)) ((⟨#[80,111,100,47,110,47,97]⟩:ByteArray)) 0).bind fun t8=>(((F34 ((⟨t8.1,t8.2.1,t3.2.2.1,t8.2.2.1,t8.2.2.2.1,t8.2.2.2.2.1⟩:TStore)) 2).bind fun t10=>some ((t10.1,t10.2.1,t10.2.2.1,t10.2.2.2.1,t10.2.2.2.2))).bind fun o9=>(F25 ((⟨t8.1,o9.1,t3.2.2.1,o9.2.1,o9.2.2.1,o9.2.2.2.1⟩:TStore)) 1).bind fun t11=>(((if¬(t3.2.2.2.2.2.2.2=0)then some true else(if¬(o4.2.2.2.2.2.2=0)then some true else(if¬(t6.2.2.2.2.2.2.2.2.2.2.2.2.2.2.2.2.2.2.2.2.2.2.2.2.2.2.2.2=9)then some true else(if¬(t7.2=0)then some true else(if¬(t8.2.2.2.2.2.2=0)then some true else(if¬(o9.2.2.2.2=0)then some true else some (decide (¬(t11.2=10)))))))))).bind fun o12=>(if o12=true then some false else(((if(t3.2.2.2.2.2.2.1).Meta.Uid=1 then(if(t3.2.2.2.2.2.2.1).Meta.Version=1 then(if(t3.2.2.2.2.2.2.1).Meta.Generation=1 then(if(t3.2.2.2.2.2.2.1).Meta.Created=5 then(if(o4.2.2.2.2.2.1).Meta.Version=2 then(if(o4.2.2.2.2.2.1).Meta.Generation=2 then(if(t7.1.length:Int)=1 then(rdI t7.1 0).bind fun y28=>(if y28.Spec.N=1 then(if(t8.2.2.2.2.2.1).Meta.Version=3 then(if t8.1=3 then(if(o9.2.2.1.length:Int)=0 then some (decide ((o9.2.2.2.1.length:Int)=1))else some false)else some false)else some false)else some false)else some false)else some false)else some false)else some false)else some false)else some false)else some false)).bind fun o20=>some o20)))))
def a8:AFn:=⟨158,[(.tmp 0)],
 (.seq (.reg [sq 0 (.mv (kB false))])
 (.seq (.reg [sq 18 (.call 20 []),
sq 19 (.call 33 [(kS ⟨#[97]⟩),(kI 1)]),
sq 20 (.call 32 [(.t 18),(.t 19),(kI 5)]),
sq 17 (.mv (.t 20)),
sq 21 (.ext (.t 17) 0),
sq 22 (.ext (.t 17) 1),
sq 23 (.ext (.t 17) 2),
sq 1 (.zbox [dI 0,dI 0,dI 0,dN,dN,dN]),
sq 2 (.zbox [dS ⟨#[]⟩,dS ⟨#[]⟩,dS ⟨#[]⟩,dI 0,dI 0,dI 0,dI 0,dB false,dI 0,dN,dN,dN,dN,dI 0,dI 0,dS ⟨#[]⟩,dN,dN,dI 0,dI 0,dS ⟨#[]⟩,dN,dN]),
su (.store 6 (.t 1) (.t 21)),
su (.store 23 (.t 2) (.t 22)),
sq 3 (.mv (.t 23))])
 (.seq (.reg [sq 24 (.load (some 23) (.t 2)),
sq 4 (.zbox [dS ⟨#[]⟩,dS ⟨#[]⟩,dS ⟨#[]⟩,dI 0,dI 0,dI 0,dI 0,dB false,dI 0,dN,dN,dN,dN,dI 0,dI 0,dS ⟨#[]⟩,dN,dN,dI 0,dI 0,dS ⟨#[]⟩,dN,dN]),
su (.store 23 (.t 4) (.t 24))])
 (.seq (.reg [sq 25 (.build [dI 0,dI 0,dS ⟨#[]⟩,dN,dN] [(0,1,(kI 2)),(1,1,(kI 2))]),
sq 26 (.fieldA 13 (.t 4)),
su (.store 5 (.t 26) (.t 25))])
 (.seq (.sem (.reg [sq 28 (.load (some 6) (.t 1)),
sq 29 (.load (some 23) (.t 4)),
sq 30 (.call 12 [(.t 28),(.t 29)]),
sq 27 (.mv (.t 30)),
sq 31 (.ext (.t 27) 0),
sq 32 (.ext (.t 27) 1),
sq 33 (.ext (.t 27) 2),
sq 5 (.zbox [dS ⟨#[]⟩,dS ⟨#[]⟩,dS ⟨#[]⟩,dI 0,dI 0,dI 0,dI 0,dB false,dI 0,dN,dN,dN,dN,dI 0,dI 0,dS ⟨#[]⟩,dN,dN,dI 0,dI 0,dS ⟨#[]⟩,dN,dN]),
su (.store 6 (.t 1) (.t 31)),
su (.store 23 (.t 5) (.t 32)),
sq 6 (.mv (.t 33))]))
 (.seq (.reg [sq 35 (.load (some 6) (.t 1)),
sq 36 (.load (some 23) (.t 4)),
sq 37 (.call 12 [(.t 35),(.t 36)]),
sq 34 (.mv (.t 37)),
sq 38 (.ext (.t 34) 0),
sq 39 (.ext (.t 34) 1),
sq 40 (.ext (.t 34) 2),
sq 7 (.zbox [dI 0,dI 0,dI 0,dN,dN,dN]),
sq 8 (.zbox [dS ⟨#[]⟩,dS ⟨#[]⟩,dS ⟨#[]⟩,dI 0,dI 0,dI 0,dI 0,dB false,dI 0,dN,dN,dN,dN,dI 0,dI 0,dS ⟨#[]⟩,dN,dN,dI 0,dI 0,dS ⟨#[]⟩,dN,dN]),
su (.store 6 (.t 7) (.t 38)),
su (.store 23 (.t 8) (.t 39)),
sq 9 (.mv (.t 40))])
 (.seq (.reg [sq 42 (.load (some 6) (.t 1)),
sq 43 (.call 25 [(.t 42),(kI 1)]),
sq 41 (.mv (.t 43)),
sq 44 (.ext (.t 41) 0),
sq 45 (.ext (.t 41) 1),
sq 10 (.mv (.t 44)),
sq 11 (.mv (.t 45))])
 (.seq (.reg [sq 47 (.load (some 6) (.t 1)),
sq 48 (.call 13 [(.t 47),(kS ⟨#[80,111,100,47,110,47,97]⟩),(kI 0)]),
sq 46 (.mv (.t 48)),
sq 49 (.ext (.t 46) 0),
sq 50 (.ext (.t 46) 1),
sq 51 (.ext (.t 46) 2),
sq 12 (.zbox [dS ⟨#[]⟩,dS ⟨#[]⟩,dS ⟨#[]⟩,dI 0,dI 0,dI 0,dI 0,dB false,dI 0,dN,dN,dN,dN,dI 0,dI 0,dS ⟨#[]⟩,dN,dN,dI 0,dI 0,dS ⟨#[]⟩,dN,dN]),
su (.store 6 (.t 1) (.t 49)),
su (.store 23 (.t 12) (.t 50)),
sq 13 (.mv (.t 51))])
 (.seq (.sem (.reg [sq 53 (.load (some 6) (.t 1)),
sq 54 (.call 34 [(.t 53),(kI 2)]),
sq 52 (.mv (.t 54)),
sq 55 (.ext (.t 52) 0),
sq 56 (.ext (.t 52) 1),
su (.store 6 (.t 1) (.t 55)),
sq 14 (.mv (.t 56))]))
 (.seq (.reg [sq 58 (.load (some 6) (.t 1)),
sq 59 (.call 25 [(.t 58),(kI 1)]),
sq 57 (.mv (.t 59)),
sq 60 (.ext (.t 57) 0),
sq 61 (.ext (.t 57) 1),
sq 15 (.mv (.t 60)),
sq 16 (.mv (.t 61))])
 (.seq (.seq (.sem (.reg [sq 62 (.mv (.t 3)),
sq 63 (.bin .neq (.t 62) (kI 0)),
sq 64 (.mv (.t 63)),
zg 65 64 false (.mv (.t 6)),
zg 66 64 false (.bin .neq (.t 65) (kI 0)),
sq 67 (.pick (.t 64) (kB true) (.t 66)),
sq 68 (.mv (.t 67)),
zg 69 68 false (.mv (.t 9)),
zg 70 68 false (.bin .neq (.t 69) (kI 9)),
sq 71 (.pick (.t 68) (kB true) (.t 70)),
sq 72 (.mv (.t 71)),
zg 73 72 false (.mv (.t 11)),
zg 74 72 false (.bin .neq (.t 73) (kI 0)),
sq 75 (.pick (.t 72) (kB true) (.t 74)),
sq 76 (.mv (.t 75)),
zg 77 76 false (.mv (.t 13)),
zg 78 76 false (.bin .neq (.t 77) (kI 0)),
sq 79 (.pick (.t 76) (kB true) (.t 78)),
sq 80 (.mv (.t 79)),
zg 81 80 false (.mv (.t 14)),
zg 82 80 false (.bin .neq (.t 81) (kI 0)),
sq 83 (.pick (.t 80) (kB true) (.t 82)),
sq 84 (.mv (.t 83)),
zg 85 84 false (.mv (.t 16)),
zg 86 84 false (.bin .neq (.t 85) (kI 10)),
sq 87 (.pick (.t 84) (kB true) (.t 86))]))
 (.cond (.t 87)
 (.seq (.reg [sq 0 (.mv (kB false))])
 .ret)
 .skip))
 (.seq (.sem (.reg [sq 88 (.fieldA 0 (.t 2)),
sq 89 (.fieldA 3 (.t 88)),
sq 90 (.load none (.t 89)),
sq 91 (.bin .eql (.t 90) (kI 1)),
sq 92 (.mv (.t 91)),
zg 93 92 true (.fieldA 0 (.t 2)),
zg 94 92 true (.fieldA 4 (.t 93)),
zg 95 92 true (.load none (.t 94)),
zg 96 92 true (.bin .eql (.t 95) (kI 1)),
sq 97 (.pick (.t 92) (.t 96) (kB false)),
sq 98 (.mv (.t 97)),
zg 99 98 true (.fieldA 0 (.t 2)),
zg 100 98 true (.fieldA 5 (.t 99)),
zg 101 98 true (.load none (.t 100)),
zg 102 98 true (.bin .eql (.t 101) (kI 1)),
sq 103 (.pick (.t 98) (.t 102) (kB false)),
sq 104 (.mv (.t 103)),
zg 105 104 true (.fieldA 0 (.t 2)),
zg 106 104 true (.fieldA 6 (.t 105)),
zg 107 104 true (.load none (.t 106)),
zg 108 104 true (.bin .eql (.t 107) (kI 5)),
sq 109 (.pick (.t 104) (.t 108) (kB false)),
sq 110 (.mv (.t 109)),
zg 111 110 true (.fieldA 0 (.t 5)),
zg 112 110 true (.fieldA 4 (.t 111)),
zg 113 110 true (.load none (.t 112)),
zg 114 110 true (.bin .eql (.t 113) (kI 2)),
sq 115 (.pick (.t 110) (.t 114) (kB false)),
sq 116 (.mv (.t 115)),
zg 117 116 true (.fieldA 0 (.t 5)),
zg 118 116 true (.fieldA 5 (.t 117)),
zg 119 116 true (.load none (.t 118)),
zg 120 116 true (.bin .eql (.t 119) (kI 2)),
sq 121 (.pick (.t 116) (.t 120) (kB false)),
sq 122 (.mv (.t 121)),
zg 123 122 true (.mv (.t 10)),
zg 124 122 true (.len (.t 123)),
zg 125 122 true (.bin .eql (.t 124) (kI 1)),
sq 126 (.pick (.t 122) (.t 125) (kB false)),
sq 127 (.mv (.t 126)),
zg 128 127 true (.mv (.t 10)),
zg 129 127 true (.indexA 23 (.t 128) (kI 0)),
zg 130 127 true (.fieldA 13 (.t 129)),
zg 131 127 true (.fieldA 1 (.t 130)),
zg 132 127 true (.load none (.t 131)),
zg 133 127 true (.bin .eql (.t 132) (kI 1)),
sq 134 (.pick (.t 127) (.t 133) (kB false)),
sq 135 (.mv (.t 134)),
zg 136 135 true (.fieldA 0 (.t 12)),
zg 137 135 true (.fieldA 4 (.t 136)),
zg 138 135 true (.load none (.t 137)),
zg 139 135 true (.bin .eql (.t 138) (kI 3)),
sq 140 (.pick (.t 135) (.t 139) (kB false)),
sq 141 (.mv (.t 140)),
zg 142 141 true (.fieldA 0 (.t 1)),
zg 143 141 true (.load none (.t 142)),
zg 144 141 true (.bin .eql (.t 143) (kI 3)),
sq 145 (.pick (.t 141) (.t 144) (kB false)),
sq 146 (.mv (.t 145)),
zg 147 146 true (.fieldA 4 (.t 1)),
zg 148 146 true (.load none (.t 147)),
zg 149 146 true (.len (.t 148)),
zg 150 146 true (.bin .eql (.t 149) (kI 0)),
sq 151 (.pick (.t 146) (.t 150) (kB false)),
sq 152 (.mv (.t 151)),
zg 153 152 true (.fieldA 5 (.t 1)),
zg 154 152 true (.load none (.t 153)),
zg 155 152 true (.len (.t 154)),
zg 156 152 true (.bin .eql (.t 155) (kI 1)),
sq 157 (.pick (.t 152) (.t 156) (kB false)),
sq 0 (.mv (.t 157))]))
 .ret))))))))))))⟩
theorem F8_ok{r}(h:F8=some r):CallD Tryz.prog 8 [] [] (tupV [.c (dB r)]) []:=by
 rw[F8]at h
 refine zc a8 (by kernel_rfl) rfl (ww ?_)
 obtain⟨t1,ht1,h⟩:=bi h
 refine cN [] (F20_ok ht1) trivial (ww ?_)
 obtain⟨t2,ht2,h⟩:=bi h
 refine cN [] (F33_ok ht2) trivial (ww ?_)
 obtain⟨t3,ht3,h⟩:=bi h
 refine cN [] (F32_ok ht3) trivial (ww ?_)
 obtain⟨o4,ho,h⟩:=bi h
 refine cutS (fun s=>s=⟨[(1,.one (.c (.pt 0 0))),(2,.one (.c (.pt 1 0))),(3,.one (.c (dI t3.2.2.2.2.2.2.2))),(4,.one (.c (.pt 2 0))),(5,.one (.c (.pt 3 0))),(6,.one (.c (dI o4.2.2.2.2.2.2)))],[some (.box [dI o4.1,dI o4.2.1,dI t3.2.2.1,dM (o4.2.2.1.map eObject),dM (o4.2.2.2.1.map eObject),dM (o4.2.2.2.2.1.map eChange)]),some (.box [dS ((t3.2.2.2.2.2.2.1).Meta.Kind),dS ((t3.2.2.2.2.2.2.1).Meta.Namespace),dS ((t3.2.2.2.2.2.2.1).Meta.Name),dI ((t3.2.2.2.2.2.2.1).Meta.Uid),dI ((t3.2.2.2.2.2.2.1).Meta.Version),dI ((t3.2.2.2.2.2.2.1).Meta.Generation),dI ((t3.2.2.2.2.2.2.1).Meta.Created),dB ((t3.2.2.2.2.2.2.1).Meta.Deleting),dI ((t3.2.2.2.2.2.2.1).Meta.DeleteAt),dM (((t3.2.2.2.2.2.2.1).Meta.Labels).map eLabel),dM (((t3.2.2.2.2.2.2.1).Meta.Owners).map eOwner),dM (((t3.2.2.2.2.2.2.1).Meta.Finalizers).map eS),dM (((t3.2.2.2.2.2.2.1).Meta.Managers).map eManager),dI ((t3.2.2.2.2.2.2.1).Spec.Kind),dI ((t3.2.2.2.2.2.2.1).Spec.N),dS ((t3.2.2.2.2.2.2.1).Spec.S),dM (((t3.2.2.2.2.2.2.1).Spec.List_).map eTValue),dM (((t3.2.2.2.2.2.2.1).Spec.Fields).map eTField),dI ((t3.2.2.2.2.2.2.1).Status.Kind),dI ((t3.2.2.2.2.2.2.1).Status.N),dS ((t3.2.2.2.2.2.2.1).Status.S),dM (((t3.2.2.2.2.2.2.1).Status.List_).map eTValue),dM (((t3.2.2.2.2.2.2.1).Status.Fields).map eTField)]),some (.box [dS ((t3.2.2.2.2.2.2.1).Meta.Kind),dS ((t3.2.2.2.2.2.2.1).Meta.Namespace),dS ((t3.2.2.2.2.2.2.1).Meta.Name),dI ((t3.2.2.2.2.2.2.1).Meta.Uid),dI ((t3.2.2.2.2.2.2.1).Meta.Version),dI ((t3.2.2.2.2.2.2.1).Meta.Generation),dI ((t3.2.2.2.2.2.2.1).Meta.Created),dB ((t3.2.2.2.2.2.2.1).Meta.Deleting),dI ((t3.2.2.2.2.2.2.1).Meta.DeleteAt),dM (((t3.2.2.2.2.2.2.1).Meta.Labels).map eLabel),dM (((t3.2.2.2.2.2.2.1).Meta.Owners).map eOwner),dM (((t3.2.2.2.2.2.2.1).Meta.Finalizers).map eS),dM (((t3.2.2.2.2.2.2.1).Meta.Managers).map eManager),dI 2,dI 2,dS ((⟨#[]⟩:ByteArray)),dN,dN,dI ((t3.2.2.2.2.2.2.1).Status.Kind),dI ((t3.2.2.2.2.2.2.1).Status.N),dS ((t3.2.2.2.2.2.2.1).Status.S),dM (((t3.2.2.2.2.2.2.1).Status.List_).map eTValue),dM (((t3.2.2.2.2.2.2.1).Status.Fields).map eTField)]),some (.box [dS ((o4.2.2.2.2.2.1).Meta.Kind),dS ((o4.2.2.2.2.2.1).Meta.Namespace),dS ((o4.2.2.2.2.2.1).Meta.Name),dI ((o4.2.2.2.2.2.1).Meta.Uid),dI ((o4.2.2.2.2.2.1).Meta.Version),dI ((o4.2.2.2.2.2.1).Meta.Generation),dI ((o4.2.2.2.2.2.1).Meta.Created),dB ((o4.2.2.2.2.2.1).Meta.Deleting),dI ((o4.2.2.2.2.2.1).Meta.DeleteAt),dM (((o4.2.2.2.2.2.1).Meta.Labels).map eLabel),dM (((o4.2.2.2.2.2.1).Meta.Owners).map eOwner),dM (((o4.2.2.2.2.2.1).Meta.Finalizers).map eS),dM (((o4.2.2.2.2.2.1).Meta.Managers).map eManager),dI ((o4.2.2.2.2.2.1).Spec.Kind),dI ((o4.2.2.2.2.2.1).Spec.N),dS ((o4.2.2.2.2.2.1).Spec.S),dM (((o4.2.2.2.2.2.1).Spec.List_).map eTValue),dM (((o4.2.2.2.2.2.1).Spec.Fields).map eTField),dI ((o4.2.2.2.2.2.1).Status.Kind),dI ((o4.2.2.2.2.2.1).Status.N),dS ((o4.2.2.2.2.2.1).Status.S),dM (((o4.2.2.2.2.2.1).Status.List_).map eTValue),dM (((o4.2.2.2.2.2.1).Status.Fields).map eTField)])]⟩) ?_ ?_
 ·have h:=ho
  clear ho
  refine ww ?_
  obtain⟨t5,ht5,h⟩:=bi h
  refine callX_gen (as1:=[.agg [dI t3.1,dI t3.2.1,dI t3.2.2.1,dM (t3.2.2.2.1.map eObject),dM (t3.2.2.2.2.1.map eObject),dM (t3.2.2.2.2.2.1.map eChange)],.agg [dS ((t3.2.2.2.2.2.2.1).Meta.Kind),dS ((t3.2.2.2.2.2.2.1).Meta.Namespace),dS ((t3.2.2.2.2.2.2.1).Meta.Name),dI ((t3.2.2.2.2.2.2.1).Meta.Uid),dI ((t3.2.2.2.2.2.2.1).Meta.Version),dI ((t3.2.2.2.2.2.2.1).Meta.Generation),dI ((t3.2.2.2.2.2.2.1).Meta.Created),dB ((t3.2.2.2.2.2.2.1).Meta.Deleting),dI ((t3.2.2.2.2.2.2.1).Meta.DeleteAt),dM (((t3.2.2.2.2.2.2.1).Meta.Labels).map eLabel),dM (((t3.2.2.2.2.2.2.1).Meta.Owners).map eOwner),dM (((t3.2.2.2.2.2.2.1).Meta.Finalizers).map eS),dM (((t3.2.2.2.2.2.2.1).Meta.Managers).map eManager),dI 2,dI 2,dS ((⟨#[]⟩:ByteArray)),dM [],dM [],dI ((t3.2.2.2.2.2.2.1).Status.Kind),dI ((t3.2.2.2.2.2.2.1).Status.N),dS ((t3.2.2.2.2.2.2.1).Status.S),dM (((t3.2.2.2.2.2.2.1).Status.List_).map eTValue),dM (((t3.2.2.2.2.2.2.1).Status.Fields).map eTField)]]) [(0,.arr 1 23 []),(1,.arr 1 23 []),(2,.arr 1 25 []),(3,.box [dI t3.1,dI t3.2.1,dI t3.2.2.1,.own 0 0 0 0 (some 0),.own 1 0 0 0 (some 0),.own 2 0 0 0 (some 0)])] [none,none,none,some 3,some 4,some 5] [] (F12_ok ht5) ⟨?_,rfl,?_⟩ ?_ ?_ ?_ ?_ ?_ ?_ ?_ ?_
  ·simp only[ZZ.down,Nat.reduceEqDiff,reduceCtorEq,Nat.reduceAdd,Nat.reduceLeDiff,Nat.reduceLT,Nat.reduceBNe,EE.down]
  ·simp only[ZZ.down,Nat.reduceEqDiff,reduceCtorEq,Nat.reduceAdd,Nat.reduceLeDiff,Nat.reduceLT,Nat.reduceBNe,EE.down]
  ·simp only[ZZ.down,Nat.reduceEqDiff,reduceCtorEq,Nat.reduceAdd,Nat.reduceLeDiff,Nat.reduceLT,Nat.reduceBNe,EE.down]
  ·rfl
  ·rfl
  ·simp[liveAll,A1.live,C.live]
  ·rfl
  ·decide
  ·exact trivial
  refine ww ?_
  cases h
  exact eM [some 3,some 4,some 5,some 9] rfl
 rintro _ rfl
 clear ho
 refine ww ?_
 obtain⟨t6,ht6,h⟩:=bi h
 refine cN [] (F12_ok ht6) trivial (ww ?_)
 obtain⟨t7,ht7,h⟩:=bi h
 refine cN [] (F25_ok ht7) trivial (ww ?_)
 obtain⟨t8,ht8,h⟩:=bi h
 refine cN [] (F13_ok ht8) trivial (ww ?_)
 obtain⟨o9,ho,h⟩:=bi h
 refine cutS (fun s=>s=⟨[(1,.one (.c (.pt 0 0))),(2,.one (.c (.pt 1 0))),(3,.one (.c (dI t3.2.2.2.2.2.2.2))),(5,.one (.c (.pt 2 0))),(6,.one (.c (dI o4.2.2.2.2.2.2))),(9,.one (.c (dI t6.2.2.2.2.2.2.2.2.2.2.2.2.2.2.2.2.2.2.2.2.2.2.2.2.2.2.2.2))),(10,.one (.c (dM (t7.1.map eObject)))),(11,.one (.c (dI t7.2))),(12,.one (.c (.pt 3 0))),(13,.one (.c (dI t8.2.2.2.2.2.2))),(14,.one (.c (dI o9.2.2.2.2)))],[some (.box [dI t8.1,dI o9.1,dI t3.2.2.1,dM (o9.2.1.map eObject),dM (o9.2.2.1.map eObject),dM (o9.2.2.2.1.map eChange)]),some (.box [dS ((t3.2.2.2.2.2.2.1).Meta.Kind),dS ((t3.2.2.2.2.2.2.1).Meta.Namespace),dS ((t3.2.2.2.2.2.2.1).Meta.Name),dI ((t3.2.2.2.2.2.2.1).Meta.Uid),dI ((t3.2.2.2.2.2.2.1).Meta.Version),dI ((t3.2.2.2.2.2.2.1).Meta.Generation),dI ((t3.2.2.2.2.2.2.1).Meta.Created),dB ((t3.2.2.2.2.2.2.1).Meta.Deleting),dI ((t3.2.2.2.2.2.2.1).Meta.DeleteAt),dM (((t3.2.2.2.2.2.2.1).Meta.Labels).map eLabel),dM (((t3.2.2.2.2.2.2.1).Meta.Owners).map eOwner),dM (((t3.2.2.2.2.2.2.1).Meta.Finalizers).map eS),dM (((t3.2.2.2.2.2.2.1).Meta.Managers).map eManager),dI ((t3.2.2.2.2.2.2.1).Spec.Kind),dI ((t3.2.2.2.2.2.2.1).Spec.N),dS ((t3.2.2.2.2.2.2.1).Spec.S),dM (((t3.2.2.2.2.2.2.1).Spec.List_).map eTValue),dM (((t3.2.2.2.2.2.2.1).Spec.Fields).map eTField),dI ((t3.2.2.2.2.2.2.1).Status.Kind),dI ((t3.2.2.2.2.2.2.1).Status.N),dS ((t3.2.2.2.2.2.2.1).Status.S),dM (((t3.2.2.2.2.2.2.1).Status.List_).map eTValue),dM (((t3.2.2.2.2.2.2.1).Status.Fields).map eTField)]),some (.box [dS ((o4.2.2.2.2.2.1).Meta.Kind),dS ((o4.2.2.2.2.2.1).Meta.Namespace),dS ((o4.2.2.2.2.2.1).Meta.Name),dI ((o4.2.2.2.2.2.1).Meta.Uid),dI ((o4.2.2.2.2.2.1).Meta.Version),dI ((o4.2.2.2.2.2.1).Meta.Generation),dI ((o4.2.2.2.2.2.1).Meta.Created),dB ((o4.2.2.2.2.2.1).Meta.Deleting),dI ((o4.2.2.2.2.2.1).Meta.DeleteAt),dM (((o4.2.2.2.2.2.1).Meta.Labels).map eLabel),dM (((o4.2.2.2.2.2.1).Meta.Owners).map eOwner),dM (((o4.2.2.2.2.2.1).Meta.Finalizers).map eS),dM (((o4.2.2.2.2.2.1).Meta.Managers).map eManager),dI ((o4.2.2.2.2.2.1).Spec.Kind),dI ((o4.2.2.2.2.2.1).Spec.N),dS ((o4.2.2.2.2.2.1).Spec.S),dM (((o4.2.2.2.2.2.1).Spec.List_).map eTValue),dM (((o4.2.2.2.2.2.1).Spec.Fields).map eTField),dI ((o4.2.2.2.2.2.1).Status.Kind),dI ((o4.2.2.2.2.2.1).Status.N),dS ((o4.2.2.2.2.2.1).Status.S),dM (((o4.2.2.2.2.2.1).Status.List_).map eTValue),dM (((o4.2.2.2.2.2.1).Status.Fields).map eTField)]),some (.box [dS ((t8.2.2.2.2.2.1).Meta.Kind),dS ((t8.2.2.2.2.2.1).Meta.Namespace),dS ((t8.2.2.2.2.2.1).Meta.Name),dI ((t8.2.2.2.2.2.1).Meta.Uid),dI ((t8.2.2.2.2.2.1).Meta.Version),dI ((t8.2.2.2.2.2.1).Meta.Generation),dI ((t8.2.2.2.2.2.1).Meta.Created),dB ((t8.2.2.2.2.2.1).Meta.Deleting),dI ((t8.2.2.2.2.2.1).Meta.DeleteAt),dM (((t8.2.2.2.2.2.1).Meta.Labels).map eLabel),dM (((t8.2.2.2.2.2.1).Meta.Owners).map eOwner),dM (((t8.2.2.2.2.2.1).Meta.Finalizers).map eS),dM (((t8.2.2.2.2.2.1).Meta.Managers).map eManager),dI ((t8.2.2.2.2.2.1).Spec.Kind),dI ((t8.2.2.2.2.2.1).Spec.N),dS ((t8.2.2.2.2.2.1).Spec.S),dM (((t8.2.2.2.2.2.1).Spec.List_).map eTValue),dM (((t8.2.2.2.2.2.1).Spec.Fields).map eTField),dI ((t8.2.2.2.2.2.1).Status.Kind),dI ((t8.2.2.2.2.2.1).Status.N),dS ((t8.2.2.2.2.2.1).Status.S),dM (((t8.2.2.2.2.2.1).Status.List_).map eTValue),dM (((t8.2.2.2.2.2.1).Status.Fields).map eTField)])]⟩) ?_ ?_
 ·have h:=ho
  clear ho
  refine ww ?_
  obtain⟨t10,ht10,h⟩:=bi h
  refine callX_gen (as1:=[.agg [dI t8.1,dI t8.2.1,dI t3.2.2.1,dM (t8.2.2.1.map eObject),dM (t8.2.2.2.1.map eObject),dM (t8.2.2.2.2.1.map eChange)],.c (dI 2)]) [(10,.arr 1 23 []),(11,.arr 1 23 []),(12,.arr 1 25 []),(0,.box [dI t8.1,dI t8.2.1,dI t3.2.2.1,.own 10 0 0 0 (some 0),.own 11 0 0 0 (some 0),.own 12 0 0 0 (some 0)])] [some 0,some 1,some 2,some 3,some 4,some 5,some 6,some 7,some 8,some 9,none,none,none,some 13] [] (F34_ok ht10) ⟨?_,rfl,?_⟩ ?_ ?_ ?_ ?_ ?_ ?_ ?_ ?_
  ·simp only[ZZ.down,Nat.reduceEqDiff,reduceCtorEq,Nat.reduceAdd,Nat.reduceLeDiff,Nat.reduceLT,Nat.reduceBNe,EE.down]
  ·simp only[ZZ.down,Nat.reduceEqDiff,reduceCtorEq,Nat.reduceAdd,Nat.reduceLeDiff,Nat.reduceLT,Nat.reduceBNe,EE.down]
  ·simp only[ZZ.down,Nat.reduceEqDiff,reduceCtorEq,Nat.reduceAdd,Nat.reduceLeDiff,Nat.reduceLT,Nat.reduceBNe,EE.down]
  ·rfl
  ·rfl
  ·simp[liveAll,A1.live,C.live]
  ·rfl
  ·decide
  ·exact trivial
  refine ww ?_
  cases h
  exact eM [some 0,some 1,some 3,some 13] rfl
 rintro _ rfl
 clear ho
 refine ww ?_
 obtain⟨t11,ht11,h⟩:=bi h
 refine cN [] (F25_ok ht11) trivial (ww ?_)
 obtain⟨o12,ho,h⟩:=bi h
 refine cutS (fun s=>s=⟨[(1,.one (.c (.pt 0 0))),(2,.one (.c (.pt 1 0))),(5,.one (.c (.pt 2 0))),(10,.one (.c (dM (t7.1.map eObject)))),(12,.one (.c (.pt 3 0))),(87,.one (.c (dB o12)))],[some (.box [dI t8.1,dI o9.1,dI t3.2.2.1,dM (o9.2.1.map eObject),dM (o9.2.2.1.map eObject),dM (o9.2.2.2.1.map eChange)]),some (.box [dS ((t3.2.2.2.2.2.2.1).Meta.Kind),dS ((t3.2.2.2.2.2.2.1).Meta.Namespace),dS ((t3.2.2.2.2.2.2.1).Meta.Name),dI ((t3.2.2.2.2.2.2.1).Meta.Uid),dI ((t3.2.2.2.2.2.2.1).Meta.Version),dI ((t3.2.2.2.2.2.2.1).Meta.Generation),dI ((t3.2.2.2.2.2.2.1).Meta.Created),dB ((t3.2.2.2.2.2.2.1).Meta.Deleting),dI ((t3.2.2.2.2.2.2.1).Meta.DeleteAt),dM (((t3.2.2.2.2.2.2.1).Meta.Labels).map eLabel),dM (((t3.2.2.2.2.2.2.1).Meta.Owners).map eOwner),dM (((t3.2.2.2.2.2.2.1).Meta.Finalizers).map eS),dM (((t3.2.2.2.2.2.2.1).Meta.Managers).map eManager),dI ((t3.2.2.2.2.2.2.1).Spec.Kind),dI ((t3.2.2.2.2.2.2.1).Spec.N),dS ((t3.2.2.2.2.2.2.1).Spec.S),dM (((t3.2.2.2.2.2.2.1).Spec.List_).map eTValue),dM (((t3.2.2.2.2.2.2.1).Spec.Fields).map eTField),dI ((t3.2.2.2.2.2.2.1).Status.Kind),dI ((t3.2.2.2.2.2.2.1).Status.N),dS ((t3.2.2.2.2.2.2.1).Status.S),dM (((t3.2.2.2.2.2.2.1).Status.List_).map eTValue),dM (((t3.2.2.2.2.2.2.1).Status.Fields).map eTField)]),some (.box [dS ((o4.2.2.2.2.2.1).Meta.Kind),dS ((o4.2.2.2.2.2.1).Meta.Namespace),dS ((o4.2.2.2.2.2.1).Meta.Name),dI ((o4.2.2.2.2.2.1).Meta.Uid),dI ((o4.2.2.2.2.2.1).Meta.Version),dI ((o4.2.2.2.2.2.1).Meta.Generation),dI ((o4.2.2.2.2.2.1).Meta.Created),dB ((o4.2.2.2.2.2.1).Meta.Deleting),dI ((o4.2.2.2.2.2.1).Meta.DeleteAt),dM (((o4.2.2.2.2.2.1).Meta.Labels).map eLabel),dM (((o4.2.2.2.2.2.1).Meta.Owners).map eOwner),dM (((o4.2.2.2.2.2.1).Meta.Finalizers).map eS),dM (((o4.2.2.2.2.2.1).Meta.Managers).map eManager),dI ((o4.2.2.2.2.2.1).Spec.Kind),dI ((o4.2.2.2.2.2.1).Spec.N),dS ((o4.2.2.2.2.2.1).Spec.S),dM (((o4.2.2.2.2.2.1).Spec.List_).map eTValue),dM (((o4.2.2.2.2.2.1).Spec.Fields).map eTField),dI ((o4.2.2.2.2.2.1).Status.Kind),dI ((o4.2.2.2.2.2.1).Status.N),dS ((o4.2.2.2.2.2.1).Status.S),dM (((o4.2.2.2.2.2.1).Status.List_).map eTValue),dM (((o4.2.2.2.2.2.1).Status.Fields).map eTField)]),some (.box [dS ((t8.2.2.2.2.2.1).Meta.Kind),dS ((t8.2.2.2.2.2.1).Meta.Namespace),dS ((t8.2.2.2.2.2.1).Meta.Name),dI ((t8.2.2.2.2.2.1).Meta.Uid),dI ((t8.2.2.2.2.2.1).Meta.Version),dI ((t8.2.2.2.2.2.1).Meta.Generation),dI ((t8.2.2.2.2.2.1).Meta.Created),dB ((t8.2.2.2.2.2.1).Meta.Deleting),dI ((t8.2.2.2.2.2.1).Meta.DeleteAt),dM (((t8.2.2.2.2.2.1).Meta.Labels).map eLabel),dM (((t8.2.2.2.2.2.1).Meta.Owners).map eOwner),dM (((t8.2.2.2.2.2.1).Meta.Finalizers).map eS),dM (((t8.2.2.2.2.2.1).Meta.Managers).map eManager),dI ((t8.2.2.2.2.2.1).Spec.Kind),dI ((t8.2.2.2.2.2.1).Spec.N),dS ((t8.2.2.2.2.2.1).Spec.S),dM (((t8.2.2.2.2.2.1).Spec.List_).map eTValue),dM (((t8.2.2.2.2.2.1).Spec.Fields).map eTField),dI ((t8.2.2.2.2.2.1).Status.Kind),dI ((t8.2.2.2.2.2.1).Status.N),dS ((t8.2.2.2.2.2.1).Status.S),dM (((t8.2.2.2.2.2.1).Status.List_).map eTValue),dM (((t8.2.2.2.2.2.1).Status.Fields).map eTField)])]⟩) ?_ ?_
 ·have h:=ho
  clear ho
  refine ww ?_
  refine guardSh h (fun g13 h=>?_) (fun g13 h=>?_)
  ·refine ww ?_
   cases h
   exact eM [some 0,some 1,some 2,some 3] rfl
  refine ww ?_
  refine guardSh h (fun g14 h=>?_) (fun g14 h=>?_)
  ·refine ww ?_
   cases h
   exact eM [some 0,some 1,some 2,some 3] rfl
  refine ww ?_
  refine guardSh h (fun g15 h=>?_) (fun g15 h=>?_)
  ·refine ww ?_
   cases h
   exact eM [some 0,some 1,some 2,some 3] rfl
  refine ww ?_
  refine guardSh h (fun g16 h=>?_) (fun g16 h=>?_)
  ·refine ww ?_
   cases h
   exact eM [some 0,some 1,some 2,some 3] rfl
  refine ww ?_
  refine guardSh h (fun g17 h=>?_) (fun g17 h=>?_)
  ·refine ww ?_
   cases h
   exact eM [some 0,some 1,some 2,some 3] rfl
  refine ww ?_
  refine guardSh h (fun g18 h=>?_) (fun g18 h=>?_)
  ·refine ww ?_
   cases h
   exact eM [some 0,some 1,some 2,some 3] rfl
  refine ww ?_
  cases h
  exact eM [some 0,some 1,some 2,some 3] rfl
 rintro _ rfl
 clear ho
 refine ww ?_
 refine condBh h (fun c19 h=>?_) (fun c19 h=>?_)
 ·refine ww ?_
  cases h
  exact eF []
 refine ww ?_
 obtain⟨o20,ho,h⟩:=bi h
 refine cutS (fun s=>s=⟨[(0,.one (.c (dB o20)))],[]⟩) ?_ ?_
 ·have h:=ho
  clear ho
  refine ww ?_
  refine guardSh h (fun g21 h=>?_) (fun g21 h=>?_)
  ·refine ww ?_
   refine guardSh h (fun g22 h=>?_) (fun g22 h=>?_)
   ·refine ww ?_
    refine guardSh h (fun g23 h=>?_) (fun g23 h=>?_)
    ·refine ww ?_
     refine guardSh h (fun g24 h=>?_) (fun g24 h=>?_)
     ·refine ww ?_
      refine guardSh h (fun g25 h=>?_) (fun g25 h=>?_)
      ·refine ww ?_
       refine guardSh h (fun g26 h=>?_) (fun g26 h=>?_)
       ·refine ww ?_
        refine guardSh h (fun g27 h=>?_) (fun g27 h=>?_)
        ·refine ww ?_
         obtain⟨y28,hy28,h⟩:=bi h
         refine t_idxF (enc:=eObject) (xs:=t7.1) rfl rfl hy28 rfl (ww ?_)
         refine guardSh h (fun g29 h=>?_) (fun g29 h=>?_)
         ·refine ww ?_
          refine guardSh h (fun g30 h=>?_) (fun g30 h=>?_)
          ·refine ww ?_
           refine guardSh h (fun g31 h=>?_) (fun g31 h=>?_)
           ·refine ww ?_
            refine guardSh h (fun g32 h=>?_) (fun g32 h=>?_)
            ·refine ww ?_
             cases h
             exact eM [] rfl
            refine ww ?_
            cases h
            exact eM [] rfl
           refine ww ?_
           cases h
           exact eM [] rfl
          refine ww ?_
          cases h
          exact eM [] rfl
         refine ww ?_
         cases h
         exact eM [] rfl
        refine ww ?_
        cases h
        exact eM [] rfl
       refine ww ?_
       cases h
       exact eM [] rfl
      refine ww ?_
      cases h
      exact eM [] rfl
     refine ww ?_
     cases h
     exact eM [] rfl
    refine ww ?_
    cases h
    exact eM [] rfl
   refine ww ?_
   cases h
   exact eM [] rfl
  refine ww ?_
  cases h
  exact eM [] rfl
 rintro _ rfl
 clear ho
 refine ww ?_
 cases h
 exact eF []
end Go.Proofs.YtbopaemngpbdgaaGreat
