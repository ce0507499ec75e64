/- Each Go function as a function over typed data, and its walk. -/
import Derived.Test.YtbopaemngpbdgaaGreatW0
import Derived.Test.YtbopaemngpbdgaaGreatW6
import Derived.Test.YtbopaemngpbdgaaGreatW7
import Derived.Test.YtbopaemngpbdgaaGreatW8
import Derived.Test.YtbopaemngpbdgaaGreatW9
import Derived.Test.YtbopaemngpbdgaaGreatW10
import Derived.Test.YtbopaemngpbdgaaGreatW13
namespace Go.Proofs.YtbopaemngpbdgaaGreat
open Go Go.Fw Go.Shelf
set_option maxRecDepth 100000
set_option maxHeartbeats 4000000
set_option linter.unusedSimpArgs false
set_option linter.unusedVariables false
def F22(x0:TStore)(x1:TOp):Option (Int×Int×Int×(List Object)×(List Object)×(List Change)×Object×Int):=(F58 x0 x1).bind fun t1=>(if x1.Kind=1 then(F32 x0 ((⟨(⟨x1.O.Meta.Kind,x1.O.Meta.Namespace,x1.O.Meta.Name,x1.O.Meta.Uid,t1.1,x1.O.Meta.Generation,x1.O.Meta.Created,x1.O.Meta.Deleting,x1.O.Meta.DeleteAt,x1.O.Meta.Labels,x1.O.Meta.Owners,x1.O.Meta.Finalizers,x1.O.Meta.Managers⟩:Meta),x1.O.Spec,x1.O.Status⟩:Object)) x1.Now).bind fun t3=>some ((t3.1,t3.2.1,t3.2.2.1,t3.2.2.2.1,t3.2.2.2.2.1,t3.2.2.2.2.2.1,(⟨(⟨(t3.2.2.2.2.2.2.1).Meta.Kind,(t3.2.2.2.2.2.2.1).Meta.Namespace,(t3.2.2.2.2.2.2.1).Meta.Name,(t3.2.2.2.2.2.2.1).Meta.Uid,(t3.2.2.2.2.2.2.1).Meta.Version,(t3.2.2.2.2.2.2.1).Meta.Generation,(t3.2.2.2.2.2.2.1).Meta.Created,(t3.2.2.2.2.2.2.1).Meta.Deleting,(t3.2.2.2.2.2.2.1).Meta.DeleteAt,(t3.2.2.2.2.2.2.1).Meta.Labels,(t3.2.2.2.2.2.2.1).Meta.Owners,(t3.2.2.2.2.2.2.1).Meta.Finalizers,(t3.2.2.2.2.2.2.1).Meta.Managers⟩:Meta),(⟨(t3.2.2.2.2.2.2.1).Spec.Kind,(t3.2.2.2.2.2.2.1).Spec.N,(t3.2.2.2.2.2.2.1).Spec.S,(t3.2.2.2.2.2.2.1).Spec.List_,(t3.2.2.2.2.2.2.1).Spec.Fields⟩:TValue),(⟨(t3.2.2.2.2.2.2.1).Status.Kind,(t3.2.2.2.2.2.2.1).Status.N,(t3.2.2.2.2.2.2.1).Status.S,(t3.2.2.2.2.2.2.1).Status.List_,(t3.2.2.2.2.2.2.1).Status.Fields⟩:TValue)⟩:Object),t3.2.2.2.2.2.2.2))else(if x1.Kind=2 then(F12 x0 ((⟨(⟨x1.O.Meta.Kind,x1.O.Meta.Namespace,x1.O.Meta.Name,x1.O.Meta.Uid,t1.1,x1.O.Meta.Generation,x1.O.Meta.Created,x1.O.Meta.Deleting,x1.O.Meta.DeleteAt,x1.O.Meta.Labels,x1.O.Meta.Owners,x1.O.Meta.Finalizers,x1.O.Meta.Managers⟩:Meta),x1.O.Spec,x1.O.Status⟩:Object))).bind fun t5=>some ((t5.1,t5.2.1,x0.NextUid,t5.2.2.1,t5.2.2.2.1,t5.2.2.2.2.1,(⟨(⟨t5.2.2.2.2.2.1,t5.2.2.2.2.2.2.1,t5.2.2.2.2.2.2.2.1,t5.2.2.2.2.2.2.2.2.1,t5.2.2.2.2.2.2.2.2.2.1,t5.2.2.2.2.2.2.2.2.2.2.1,t5.2.2.2.2.2.2.2.2.2.2.2.1,t5.2.2.2.2.2.2.2.2.2.2.2.2.1,t5.2.2.2.2.2.2.2.2.2.2.2.2.2.1,t5.2.2.2.2.2.2.2.2.2.2.2.2.2.2.1,t5.2.2.2.2.2.2.2.2.2.2.2.2.2.2.2.1,t5.2.2.2.2.2.2.2.2.2.2.2.2.2.2.2.2.1,t5.2.2.2.2.2.2.2.2.2.2.2.2.2.2.2.2.2.1⟩:Meta),(⟨t5.2.2.2.2.2.2.2.2.2.2.2.2.2.2.2.2.2.2.1,t5.2.2.2.2.2.2.2.2.2.2.2.2.2.2.2.2.2.2.2.1,t5.2.2.2.2.2.2.2.2.2.2.2.2.2.2.2.2.2.2.2.2.1,t5.2.2.2.2.2.2.2.2.2.2.2.2.2.2.2.2.2.2.2.2.2.1,t5.2.2.2.2.2.2.2.2.2.2.2.2.2.2.2.2.2.2.2.2.2.2.1⟩:TValue),(⟨t5.2.2.2.2.2.2.2.2.2.2.2.2.2.2.2.2.2.2.2.2.2.2.2.1,t5.2.2.2.2.2.2.2.2.2.2.2.2.2.2.2.2.2.2.2.2.2.2.2.2.1,t5.2.2.2.2.2.2.2.2.2.2.2.2.2.2.2.2.2.2.2.2.2.2.2.2.2.1,t5.2.2.2.2.2.2.2.2.2.2.2.2.2.2.2.2.2.2.2.2.2.2.2.2.2.2.1,t5.2.2.2.2.2.2.2.2.2.2.2.2.2.2.2.2.2.2.2.2.2.2.2.2.2.2.2.1⟩:TValue)⟩:Object),t5.2.2.2.2.2.2.2.2.2.2.2.2.2.2.2.2.2.2.2.2.2.2.2.2.2.2.2.2))else(if x1.Kind=3 then(F13 x0 x1.Key t1.2).bind fun t7=>some ((t7.1,t7.2.1,x0.NextUid,t7.2.2.1,t7.2.2.2.1,t7.2.2.2.2.1,(⟨(⟨(t7.2.2.2.2.2.1).Meta.Kind,(t7.2.2.2.2.2.1).Meta.Namespace,(t7.2.2.2.2.2.1).Meta.Name,(t7.2.2.2.2.2.1).Meta.Uid,(t7.2.2.2.2.2.1).Meta.Version,(t7.2.2.2.2.2.1).Meta.Generation,(t7.2.2.2.2.2.1).Meta.Created,(t7.2.2.2.2.2.1).Meta.Deleting,(t7.2.2.2.2.2.1).Meta.DeleteAt,(t7.2.2.2.2.2.1).Meta.Labels,(t7.2.2.2.2.2.1).Meta.Owners,(t7.2.2.2.2.2.1).Meta.Finalizers,(t7.2.2.2.2.2.1).Meta.Managers⟩:Meta),(⟨(t7.2.2.2.2.2.1).Spec.Kind,(t7.2.2.2.2.2.1).Spec.N,(t7.2.2.2.2.2.1).Spec.S,(t7.2.2.2.2.2.1).Spec.List_,(t7.2.2.2.2.2.1).Spec.Fields⟩:TValue),(⟨(t7.2.2.2.2.2.1).Status.Kind,(t7.2.2.2.2.2.1).Status.N,(t7.2.2.2.2.2.1).Status.S,(t7.2.2.2.2.2.1).Status.List_,(t7.2.2.2.2.2.1).Status.Fields⟩:TValue)⟩:Object),t7.2.2.2.2.2.2))else(F34 x0 x1.Rev).bind fun t8=>some ((x0.Rev,t8.1,x0.NextUid,t8.2.1,t8.2.2.1,t8.2.2.2.1,(⟨(⟨(⟨#[]⟩:ByteArray),(⟨#[]⟩:ByteArray),(⟨#[]⟩:ByteArray),0,0,0,0,false,0,[],[],[],[]⟩:Meta),(⟨0,0,(⟨#[]⟩:ByteArray),[],[]⟩:TValue),(⟨0,0,(⟨#[]⟩:ByteArray),[],[]⟩:TValue)⟩:Object),t8.2.2.2.2)))))
def a22:AFn:=⟨57,[(.cell 4 (some 6)),(.cell 5 (some 23)),(.tmp 6)],
 (.seq (.reg [sq 2 (.box (.t 0)),
sq 3 (.box (.t 1)),
sq 4 (.zbox [dI 0,dI 0,dI 0,dN,dN,dN]),
sq 5 (.zbox [dS ⟨#[]⟩,dS ⟨#[]⟩,dS ⟨#[]⟩,dI 0,dI 0,dI 0,dI 0,dB false,dI 0,dN,dN,dN,dN,dI 0,dI 0,dS ⟨#[]⟩,dN,dN,dI 0,dI 0,dS ⟨#[]⟩,dN,dN]),
sq 6 (.mv (kI 0))])
 (.seq (.reg [sq 12 (.load (some 6) (.t 2)),
sq 13 (.load (some 28) (.t 3)),
sq 14 (.call 58 [(.t 12),(.t 13)]),
sq 11 (.mv (.t 14)),
sq 15 (.ext (.t 11) 0),
sq 16 (.ext (.t 11) 1),
sq 7 (.zbox [dS ⟨#[]⟩,dS ⟨#[]⟩,dS ⟨#[]⟩,dI 0,dI 0,dI 0,dI 0,dB false,dI 0,dN,dN,dN,dN,dI 0,dI 0,dS ⟨#[]⟩,dN,dN,dI 0,dI 0,dS ⟨#[]⟩,dN,dN]),
su (.store 23 (.t 7) (.t 15)),
sq 8 (.mv (.t 16))])
 (.seq (.seq (.reg [sq 17 (.fieldA 0 (.t 3)),
sq 18 (.load none (.t 17))])
 (.block 0 (.seq (.reg [sq 20 (.bin .eql (.t 18) (kI 1)),
sq 19 (.mv (.t 20))])
 (.cond (.t 19)
 (.seq (.reg [sq 21 (.load (some 6) (.t 2)),
sq 22 (.load (some 23) (.t 7)),
sq 23 (.fieldA 26 (.t 3)),
sq 24 (.load none (.t 23)),
sq 25 (.call 32 [(.t 21),(.t 22),(.t 24)]),
sq 26 (.ext (.t 25) 0),
sq 27 (.ext (.t 25) 1),
sq 28 (.ext (.t 25) 2),
su (.store 6 (.t 4) (.t 26)),
su (.store 23 (.t 5) (.t 27)),
sq 6 (.mv (.t 28))])
 .ret)
 (.seq (.reg [sq 30 (.bin .eql (.t 18) (kI 2)),
sq 29 (.mv (.t 30))])
 (.cond (.t 29)
 (.seq (.reg [sq 31 (.load (some 6) (.t 2)),
sq 32 (.load (some 23) (.t 7)),
sq 33 (.call 12 [(.t 31),(.t 32)]),
sq 34 (.ext (.t 33) 0),
sq 35 (.ext (.t 33) 1),
sq 36 (.ext (.t 33) 2),
su (.store 6 (.t 4) (.t 34)),
su (.store 23 (.t 5) (.t 35)),
sq 6 (.mv (.t 36))])
 .ret)
 (.seq (.reg [sq 38 (.bin .eql (.t 18) (kI 3)),
sq 37 (.mv (.t 38))])
 (.cond (.t 37)
 (.seq (.reg [sq 39 (.load (some 6) (.t 2)),
sq 40 (.fieldA 24 (.t 3)),
sq 41 (.load none (.t 40)),
sq 42 (.mv (.t 8)),
sq 43 (.call 13 [(.t 39),(.t 41),(.t 42)]),
sq 44 (.ext (.t 43) 0),
sq 45 (.ext (.t 43) 1),
sq 46 (.ext (.t 43) 2),
su (.store 6 (.t 4) (.t 44)),
su (.store 23 (.t 5) (.t 45)),
sq 6 (.mv (.t 46))])
 .ret)
 .skip))))))))
 (.seq (.reg [sq 48 (.load (some 6) (.t 2)),
sq 49 (.fieldA 27 (.t 3)),
sq 50 (.load none (.t 49)),
sq 51 (.call 34 [(.t 48),(.t 50)]),
sq 47 (.mv (.t 51)),
sq 52 (.ext (.t 47) 0),
sq 53 (.ext (.t 47) 1),
sq 9 (.zbox [dI 0,dI 0,dI 0,dN,dN,dN]),
su (.store 6 (.t 9) (.t 52)),
sq 10 (.mv (.t 53))])
 (.seq (.reg [sq 54 (.load (some 6) (.t 9)),
sq 55 (.build [dS ⟨#[]⟩,dS ⟨#[]⟩,dS ⟨#[]⟩,dI 0,dI 0,dI 0,dI 0,dB false,dI 0,dN,dN,dN,dN,dI 0,dI 0,dS ⟨#[]⟩,dN,dN,dI 0,dI 0,dS ⟨#[]⟩,dN,dN] []),
sq 56 (.mv (.t 10)),
su (.store 6 (.t 4) (.t 54)),
su (.store 23 (.t 5) (.t 55)),
sq 6 (.mv (.t 56))])
 .ret)))))⟩
theorem F22_ok{x0 x1 r}(h:F22 x0 x1=some r):CallD Tryz.prog 22 [.agg [dI x0.Rev,dI x0.Floor,dI x0.NextUid,dM (x0.Base.map eObject),dM (x0.Objects.map eObject),dM (x0.History.map eChange)],.agg [dI x1.Kind,dS x1.O.Meta.Kind,dS x1.O.Meta.Namespace,dS x1.O.Meta.Name,dI x1.O.Meta.Uid,dI x1.O.Meta.Version,dI x1.O.Meta.Generation,dI x1.O.Meta.Created,dB x1.O.Meta.Deleting,dI x1.O.Meta.DeleteAt,dM (x1.O.Meta.Labels.map eLabel),dM (x1.O.Meta.Owners.map eOwner),dM (x1.O.Meta.Finalizers.map eS),dM (x1.O.Meta.Managers.map eManager),dI x1.O.Spec.Kind,dI x1.O.Spec.N,dS x1.O.Spec.S,dM (x1.O.Spec.List_.map eTValue),dM (x1.O.Spec.Fields.map eTField),dI x1.O.Status.Kind,dI x1.O.Status.N,dS x1.O.Status.S,dM (x1.O.Status.List_.map eTValue),dM (x1.O.Status.Fields.map eTField),dS x1.Key,dI x1.Version,dI x1.Now,dI x1.Rev]] [] (tupV [.agg [dI r.1,dI r.2.1,dI r.2.2.1,.own 0 0 0 (r.2.2.2.1.length) none,.own 1 0 0 (r.2.2.2.2.1.length) none,.own 2 0 0 (r.2.2.2.2.2.1.length) none],.agg [dS ((r.2.2.2.2.2.2.1).Meta.Kind),dS ((r.2.2.2.2.2.2.1).Meta.Namespace),dS ((r.2.2.2.2.2.2.1).Meta.Name),dI ((r.2.2.2.2.2.2.1).Meta.Uid),dI ((r.2.2.2.2.2.2.1).Meta.Version),dI ((r.2.2.2.2.2.2.1).Meta.Generation),dI ((r.2.2.2.2.2.2.1).Meta.Created),dB ((r.2.2.2.2.2.2.1).Meta.Deleting),dI ((r.2.2.2.2.2.2.1).Meta.DeleteAt),dM (((r.2.2.2.2.2.2.1).Meta.Labels).map eLabel),dM (((r.2.2.2.2.2.2.1).Meta.Owners).map eOwner),dM (((r.2.2.2.2.2.2.1).Meta.Finalizers).map eS),dM (((r.2.2.2.2.2.2.1).Meta.Managers).map eManager),dI ((r.2.2.2.2.2.2.1).Spec.Kind),dI ((r.2.2.2.2.2.2.1).Spec.N),dS ((r.2.2.2.2.2.2.1).Spec.S),dM (((r.2.2.2.2.2.2.1).Spec.List_).map eTValue),dM (((r.2.2.2.2.2.2.1).Spec.Fields).map eTField),dI ((r.2.2.2.2.2.2.1).Status.Kind),dI ((r.2.2.2.2.2.2.1).Status.N),dS ((r.2.2.2.2.2.2.1).Status.S),dM (((r.2.2.2.2.2.2.1).Status.List_).map eTValue),dM (((r.2.2.2.2.2.2.1).Status.Fields).map eTField)],.c (dI r.2.2.2.2.2.2.2)]) [some (.arr 0 23 (r.2.2.2.1.map eObject)),some (.arr 0 23 (r.2.2.2.2.1.map eObject)),some (.arr 0 25 (r.2.2.2.2.2.1.map eChange))]:=by
 rw[F22]at h
 refine zc a22 (by kernel_rfl) rfl (ww ?_)
 obtain⟨t1,ht1,h⟩:=bi h
 refine cN [] (F58_ok ht1) trivial (ww ?_)
 refine condSh h (fun c2 h=>?_) (fun c2 h=>?_)
 ·refine ww ?_
  obtain⟨t3,ht3,h⟩:=bi h
  refine cN [] (F32_ok ht3) trivial (ww ?_)
  cases h
  exact eF [some 5,some 6,some 7]
 refine ww ?_
 refine condSh h (fun c4 h=>?_) (fun c4 h=>?_)
 ·refine ww ?_
  obtain⟨t5,ht5,h⟩:=bi h
  refine cN [] (F12_ok ht5) trivial (ww ?_)
  cases h
  exact eF [some 5,some 6,some 7]
 refine ww ?_
 refine condSh h (fun c6 h=>?_) (fun c6 h=>?_)
 ·refine ww ?_
  obtain⟨t7,ht7,h⟩:=bi h
  refine cN [] (F13_ok ht7) trivial (ww ?_)
  cases h
  exact eF [some 5,some 6,some 7]
 refine ww ?_
 obtain⟨t8,ht8,h⟩:=bi h
 refine cN [] (F34_ok ht8) trivial (ww ?_)
 cases h
 exact eF [some 5,some 6,some 7]
def F62(x0:TStore)(x1:Int):Option (Int×(List Object)×(List Change)×Int):=(((if x1<x0.Floor then some true else some (decide (x0.Rev<x1)))).bind fun o1=>(if o1=true then some ((x0.Floor,x0.Base,x0.History,5))else(F26 x0 x1).bind fun t4=>(if¬(t4.2=0)then some ((x0.Floor,x0.Base,x0.History,t4.2))else(slI x0.History ((IntKind.i64.wrap (x1-x0.Floor))) ((x0.History.length:Int))).bind fun s6=>(apI ([]:List Change) s6).bind fun a7=>some ((x1,t4.1,a7,0)))))
def a62:AFn:=⟨44,[(.cell 4 (some 6)),(.tmp 5)],
 (.seq (.reg [sq 2 (.box (.t 0)),
sq 4 (.zbox [dI 0,dI 0,dI 0,dN,dN,dN]),
sq 5 (.mv (kI 0))])
 (.seq (.seq (.sem (.reg [sq 8 (.mv (.t 1)),
sq 9 (.fieldA 1 (.t 2)),
sq 10 (.load none (.t 9)),
sq 11 (.bin .lss (.t 8) (.t 10)),
sq 12 (.mv (.t 11)),
zg 13 12 false (.mv (.t 1)),
zg 14 12 false (.fieldA 0 (.t 2)),
zg 15 12 false (.load none (.t 14)),
zg 16 12 false (.bin .gtr (.t 13) (.t 15)),
zl 17 (.pick (.t 12) (kB true) (.t 16)) [] [2,9,2,14]]))
 (.cond (.t 17)
 (.seq (.reg [sq 18 (.load (some 6) (.t 2)),
su (.store 6 (.t 4) (.t 18)),
sq 5 (.mv (kI 5))])
 .ret)
 .skip))
 (.seq (.reg [sq 20 (.load (some 6) (.t 2)),
sq 21 (.mv (.t 1)),
sq 22 (.call 26 [(.t 20),(.t 21)]),
sq 19 (.mv (.t 22)),
sq 23 (.ext (.t 19) 0),
sq 24 (.ext (.t 19) 1),
sq 6 (.mv (.t 23)),
sq 7 (.mv (.t 24))])
 (.seq (.seq (.reg [sq 25 (.mv (.t 7)),
sq 26 (.bin .neq (.t 25) (kI 0))])
 (.cond (.t 26)
 (.seq (.reg [sq 27 (.load (some 6) (.t 2)),
sq 28 (.mv (.t 7)),
su (.store 6 (.t 4) (.t 27)),
sq 5 (.mv (.t 28))])
 .ret)
 .skip))
 (.seq (.reg [sq 29 (.bslice 25 []),
sq 30 (.fieldA 5 (.t 2)),
sq 31 (.load none (.t 30)),
sq 32 (.mv (.t 1)),
sq 33 (.fieldA 1 (.t 2)),
sq 34 (.load none (.t 33)),
sq 35 (.bin .sub (.t 32) (.t 34)),
sq 36 (.slice 25 (.t 31) (some (.t 35)) none none),
sq 37 (.app 25 368 (.t 29) (.t 36)),
sq 38 (.fieldA 5 (.t 2)),
su (.store 1 (.t 38) (.t 37))])
 (.seq (.reg [sq 39 (.mv (.t 6)),
sq 40 (.fieldA 3 (.t 2)),
⟨none,none,.store 1 (.t 40) (.t 39),[],(.lone [2])⟩])
 (.seq (.reg [sq 41 (.mv (.t 1)),
sq 42 (.fieldA 1 (.t 2)),
⟨none,none,.store 1 (.t 42) (.t 41),[],(.lone [2])⟩])
 (.seq (.reg [sq 43 (.load (some 6) (.t 2)),
su (.store 6 (.t 4) (.t 43)),
sq 5 (.mv (kI 0))])
 .ret))))))))⟩
theorem F62_ok{x0 x1 r}(h:F62 x0 x1=some r):CallD Tryz.prog 62 [.agg [dI x0.Rev,dI x0.Floor,dI x0.NextUid,dM (x0.Base.map eObject),dM (x0.Objects.map eObject),dM (x0.History.map eChange)],.c (dI x1)] [] (tupV [.agg [dI x0.Rev,dI r.1,dI x0.NextUid,dM (r.2.1.map eObject),dM (x0.Objects.map eObject),dM (r.2.2.1.map eChange)],.c (dI r.2.2.2)]) []:=by
 rw[F62]at h
 refine zc a62 (by kernel_rfl) rfl (ww ?_)
 obtain⟨o1,ho,h⟩:=bi h
 refine cutS (fun s=>s=⟨[(1,.one (.c (dI x1))),(2,.one (.c (.pt 0 0))),(4,.one (.c (.pt 1 0))),(17,.one (.c (dB o1)))],[some (.box [dI x0.Rev,dI x0.Floor,dI x0.NextUid,dM (x0.Base.map eObject),dM (x0.Objects.map eObject),dM (x0.History.map eChange)]),some (.box [dI 0,dI 0,dI 0,dN,dN,dN])]⟩) ?_ ?_
 ·have h:=ho
  clear ho
  refine ww ?_
  refine guardSh h (fun g2 h=>?_) (fun g2 h=>?_)
  ·refine ww ?_
   cases h
   exact eM [some 0,some 1] rfl
  refine ww ?_
  cases h
  exact eM [some 0,some 1] rfl
 rintro _ rfl
 clear ho
 refine ww ?_
 refine condBh h (fun c3 h=>?_) (fun c3 h=>?_)
 ·refine ww ?_
  cases h
  exact eF []
 refine ww ?_
 obtain⟨t4,ht4,h⟩:=bi h
 refine cN [] (F26_ok ht4) trivial (ww ?_)
 refine condSh h (fun c5 h=>?_) (fun c5 h=>?_)
 ·refine ww ?_
  cases h
  exact eF []
 refine ww ?_
 refine t_bslice (enc:=eChange) (ys:=([]:List Change)) rfl rfl (by simp[A1.cells]) (by first|rfl|(simp only[List.drop_zero,take_mapL];rfl)|(simp only[lit,List.map_cons,List.map_nil,List.drop_zero,take_mapL,EE.down];done)|(simp only[lit,List.map_cons,List.map_nil,List.drop_zero,take_mapL,EE.down];rfl)) (ww ?_)
 obtain⟨s6,hs6,h⟩:=bi h
 refine t_slice (enc:=eChange) (xs:=x0.History) rfl rfl rfl (fun _=>rfl) hs6 (ww ?_)
 obtain⟨a7,ha7,h⟩:=bi h
 refine t_app (enc:=eChange) (xs:=([]:List Change)) rfl rfl (by first|rfl|simp only[List.length_set]|exact(clrL_len (slI_len (by assumption))).symm) rfl (rows_frz (enc:=eChange) (fun _=>rfl)) ha7 (ww ?_)
 cases h
 exact eF []
def F96(x0:TStore)(x1:Int)(x2:Object):Option (Int×Int×((List Object))×(List Object)×(List Change)):=(F57 x0.Objects ((⟨(IntKind.i64.wrap (x0.Rev+1)),x1,(⟨(⟨x2.Meta.Kind,x2.Meta.Namespace,x2.Meta.Name,x2.Meta.Uid,(IntKind.i64.wrap (x0.Rev+1)),x2.Meta.Generation,x2.Meta.Created,x2.Meta.Deleting,x2.Meta.DeleteAt,x2.Meta.Labels,x2.Meta.Owners,x2.Meta.Finalizers,x2.Meta.Managers⟩:Meta),x2.Spec,x2.Status⟩:Object)⟩:Change))).bind fun t1=>(apI ([]:List Change) x0.History).bind fun a2=>(apI a2 ([(⟨(IntKind.i64.wrap (x0.Rev+1)),x1,(⟨(⟨x2.Meta.Kind,x2.Meta.Namespace,x2.Meta.Name,x2.Meta.Uid,(IntKind.i64.wrap (x0.Rev+1)),x2.Meta.Generation,x2.Meta.Created,x2.Meta.Deleting,x2.Meta.DeleteAt,x2.Meta.Labels,x2.Meta.Owners,x2.Meta.Finalizers,x2.Meta.Managers⟩:Meta),x2.Spec,x2.Status⟩:Object)⟩:Change)])).bind fun a3=>(if 4000<(a3.length:Int)then(F62 ((⟨(IntKind.i64.wrap (x0.Rev+1)),x0.Floor,x0.NextUid,x0.Base,t1,a3⟩:TStore)) ((IntKind.i64.wrap (x0.Floor+1)))).bind fun t5=>some ((((IntKind.i64.wrap (x0.Rev+1))),t5.1,t5.2.1,t1,t5.2.2.1))else some (((IntKind.i64.wrap (x0.Rev+1)),x0.Floor,x0.Base,t1,a3)))
def a96:AFn:=⟨51,[(.cell 6 (some 6)),(.cell 7 (some 23))],
 (.seq (.reg [sq 3 (.box (.t 0)),
sq 5 (.box (.t 2)),
sq 6 (.zbox [dI 0,dI 0,dI 0,dN,dN,dN]),
sq 7 (.zbox [dS ⟨#[]⟩,dS ⟨#[]⟩,dS ⟨#[]⟩,dI 0,dI 0,dI 0,dI 0,dB false,dI 0,dN,dN,dN,dN,dI 0,dI 0,dS ⟨#[]⟩,dN,dN,dI 0,dI 0,dS ⟨#[]⟩,dN,dN])])
 (.seq (.reg [sq 9 (.fieldA 0 (.t 3)),
sq 10 (.load none (.t 9)),
sq 11 (.bin .add (.t 10) (kI 1)),
sq 12 (.fieldA 0 (.t 5)),
sq 13 (.fieldA 4 (.t 12)),
⟨none,none,.store 1 (.t 13) (.t 11),[],(.lone [3,9,5,12])⟩])
 (.seq (.reg [sq 14 (.fieldA 0 (.t 3)),
sq 15 (.load none (.t 14)),
sq 16 (.bin .add (.t 15) (kI 1)),
sq 17 (.mv (.t 1)),
sq 18 (.load (some 23) (.t 5)),
sq 19 (.build [dI 0,dI 0,dS ⟨#[]⟩,dS ⟨#[]⟩,dS ⟨#[]⟩,dI 0,dI 0,dI 0,dI 0,dB false,dI 0,dN,dN,dN,dN,dI 0,dI 0,dS ⟨#[]⟩,dN,dN,dI 0,dI 0,dS ⟨#[]⟩,dN,dN] [(0,1,(.t 16)),(1,1,(.t 17)),(2,23,(.t 18))]),
sq 8 (.zbox [dI 0,dI 0,dS ⟨#[]⟩,dS ⟨#[]⟩,dS ⟨#[]⟩,dI 0,dI 0,dI 0,dI 0,dB false,dI 0,dN,dN,dN,dN,dI 0,dI 0,dS ⟨#[]⟩,dN,dN,dI 0,dI 0,dS ⟨#[]⟩,dN,dN]),
su (.store 25 (.t 8) (.t 19))])
 (.seq (.reg [sq 20 (.fieldA 0 (.t 3)),
sq 21 (.load none (.t 20)),
sq 22 (.bin .add (.t 21) (kI 1)),
sq 23 (.fieldA 0 (.t 3)),
⟨none,none,.store 1 (.t 23) (.t 22),[],(.lone [3,20,3])⟩])
 (.seq (.reg [sq 24 (.fieldA 4 (.t 3)),
sq 25 (.load none (.t 24)),
sq 26 (.load (some 25) (.t 8)),
sq 27 (.call 57 [(.t 25),(.t 26)]),
sq 28 (.fieldA 4 (.t 3)),
su (.store 1 (.t 28) (.t 27))])
 (.seq (.regd [sq 29 (.bslice 25 []),
sq 30 (.fieldA 5 (.t 3)),
sd 31 (.load none (.t 30)) [1],
zn 32 (.app 25 368 (.t 29) (.t 31)) [0,1,2] [0,1,2],
sq 33 (.load (some 25) (.t 8)),
zn 34 (.bslice 25 [(.t 33)]) [4] [4],
zl 35 (.app 25 368 (.t 32) (.t 34)) [0,1,2,3,4,5] [],
sd 36 (.fieldA 5 (.t 3)) [0,1,2,3,4,5,6],
⟨none,none,.store 1 (.t 36) (.t 35),[0,1,2,3,4,5,6,7],(.lone [])⟩])
 (.seq (.seq (.reg [sq 37 (.fieldA 5 (.t 3)),
sq 38 (.load none (.t 37)),
sq 39 (.len (.t 38)),
sq 40 (.bin .gtr (.t 39) (kI 4000))])
 (.cond (.t 40)
 (.reg [sq 42 (.load (some 6) (.t 3)),
sq 43 (.fieldA 1 (.t 3)),
sq 44 (.load none (.t 43)),
sq 45 (.bin .add (.t 44) (kI 1)),
sq 46 (.call 62 [(.t 42),(.t 45)]),
sq 41 (.mv (.t 46)),
sq 47 (.ext (.t 41) 0),
sq 48 (.ext (.t 41) 1),
su (.store 6 (.t 3) (.t 47))])
 .skip))
 (.seq (.regd [sq 49 (.load (some 6) (.t 3)),
sq 50 (.load (some 23) (.t 5)),
⟨none,none,.store 6 (.t 6) (.t 49),[0],(.lone [5])⟩,
⟨none,none,.store 23 (.t 7) (.t 50),[0,1,2],(.lone [])⟩])
 .ret))))))))⟩
theorem F96_ok{x0 x1 x2 r}(h:F96 x0 x1 x2=some r):CallD Tryz.prog 96 [.agg [dI x0.Rev,dI x0.Floor,dI x0.NextUid,dM (x0.Base.map eObject),dM (x0.Objects.map eObject),dM (x0.History.map eChange)],.c (dI x1),.agg [dS x2.Meta.Kind,dS x2.Meta.Namespace,dS x2.Meta.Name,dI x2.Meta.Uid,dI x2.Meta.Version,dI x2.Meta.Generation,dI x2.Meta.Created,dB x2.Meta.Deleting,dI x2.Meta.DeleteAt,dM (x2.Meta.Labels.map eLabel),dM (x2.Meta.Owners.map eOwner),dM (x2.Meta.Finalizers.map eS),dM (x2.Meta.Managers.map eManager),dI x2.Spec.Kind,dI x2.Spec.N,dS x2.Spec.S,dM (x2.Spec.List_.map eTValue),dM (x2.Spec.Fields.map eTField),dI x2.Status.Kind,dI x2.Status.N,dS x2.Status.S,dM (x2.Status.List_.map eTValue),dM (x2.Status.Fields.map eTField)]] [] (tupV [.agg [dI r.1,dI r.2.1,dI x0.NextUid,dM (r.2.2.1.map eObject),dM (r.2.2.2.1.map eObject),dM (r.2.2.2.2.map eChange)],.agg [dS x2.Meta.Kind,dS x2.Meta.Namespace,dS x2.Meta.Name,dI x2.Meta.Uid,dI ((IntKind.i64.wrap (x0.Rev+1))),dI x2.Meta.Generation,dI x2.Meta.Created,dB x2.Meta.Deleting,dI x2.Meta.DeleteAt,dM (x2.Meta.Labels.map eLabel),dM (x2.Meta.Owners.map eOwner),dM (x2.Meta.Finalizers.map eS),dM (x2.Meta.Managers.map eManager),dI x2.Spec.Kind,dI x2.Spec.N,dS x2.Spec.S,dM (x2.Spec.List_.map eTValue),dM (x2.Spec.Fields.map eTField),dI x2.Status.Kind,dI x2.Status.N,dS x2.Status.S,dM (x2.Status.List_.map eTValue),dM (x2.Status.Fields.map eTField)]]) []:=by
 rw[F96]at h
 refine zc a96 (by kernel_rfl) rfl (ww ?_)
 obtain⟨t1,ht1,h⟩:=bi h
 refine cN [] (F57_ok ht1) trivial (ww ?_)
 refine t_bslice (enc:=eChange) (ys:=([]:List Change)) rfl rfl (by simp[A1.cells]) (by first|rfl|(simp only[List.drop_zero,take_mapL];rfl)|(simp only[lit,List.map_cons,List.map_nil,List.drop_zero,take_mapL,EE.down];done)|(simp only[lit,List.map_cons,List.map_nil,List.drop_zero,take_mapL,EE.down];rfl)) (ww ?_)
 refine kD_new (by simp[wrs,allW,hset]) (ww ?_)
 obtain⟨a2,ha2,h⟩:=bi h
 refine t_app (enc:=eChange) (xs:=([]:List Change)) rfl rfl (by first|rfl|simp only[List.length_set]|exact(clrL_len (slI_len (by assumption))).symm) rfl (rows_frz (enc:=eChange) (fun _=>rfl)) ha2 (ww ?_)
 refine kD_own (by simp[wrs,allW,hset,ownW]) (ww ?_)
 refine t_bslice (enc:=eChange) (ys:=[(⟨(IntKind.i64.wrap (x0.Rev+1)),x1,(⟨(⟨x2.Meta.Kind,x2.Meta.Namespace,x2.Meta.Name,x2.Meta.Uid,(IntKind.i64.wrap (x0.Rev+1)),x2.Meta.Generation,x2.Meta.Created,x2.Meta.Deleting,x2.Meta.DeleteAt,x2.Meta.Labels,x2.Meta.Owners,x2.Meta.Finalizers,x2.Meta.Managers⟩:Meta),x2.Spec,x2.Status⟩:Object)⟩:Change)]) rfl rfl (by simp[A1.cells]) (by first|rfl|(simp only[List.drop_zero,take_mapL];rfl)|(simp only[lit,List.map_cons,List.map_nil,List.drop_zero,take_mapL,EE.down];done)|(simp only[lit,List.map_cons,List.map_nil,List.drop_zero,take_mapL,EE.down];rfl)) (ww ?_)
 refine kD_new (by simp[wrs,allW,hset]) (ww ?_)
 obtain⟨a3,ha3,h⟩:=bi h
 refine t_app (enc:=eChange) (xs:=a2) rfl rfl (by first|rfl|simp only[List.length_set]|exact(clrL_len (slI_len (by assumption))).symm) rfl (rows_full (enc:=eChange) (by first|rfl|simp only[List.length_set]|exact(clrL_len (slI_len (by assumption))).symm) rfl) ha3 (ww ?_)
 refine condSh h (fun c4 h=>?_) (fun c4 h=>?_)
 ·refine ww ?_
  obtain⟨t5,ht5,h⟩:=bi h
  refine callX_gen (as1:=[.agg [dI ((IntKind.i64.wrap (x0.Rev+1))),dI x0.Floor,dI x0.NextUid,dM (x0.Base.map eObject),dM (t1.map eObject),dM (a3.map eChange)],.c (dI ((IntKind.i64.wrap (x0.Floor+1))))]) [(5,.arr 1 23 []),(6,.arr 3 25 []),(0,.box [dI ((IntKind.i64.wrap (x0.Rev+1))),dI x0.Floor,dI x0.NextUid,dM (x0.Base.map eObject),.own 5 0 0 0 (some 0),.own 6 2 0 0 (some 0)])] [some 0,some 1,some 2,some 3,some 4,none,none,some 7] [] (F62_ok ht5) ⟨?_,rfl,?_⟩ ?_ ?_ ?_ ?_ ?_ ?_ ?_ ?_
  ·simp only[ZZ.down,Nat.reduceEqDiff,reduceCtorEq,Nat.reduceAdd,Nat.reduceLeDiff,Nat.reduceLT,Nat.reduceBNe,EE.down]
  ·simp only[ZZ.down,Nat.reduceEqDiff,reduceCtorEq,Nat.reduceAdd,Nat.reduceLeDiff,Nat.reduceLT,Nat.reduceBNe,EE.down]
  ·simp only[ZZ.down,Nat.reduceEqDiff,reduceCtorEq,Nat.reduceAdd,Nat.reduceLeDiff,Nat.reduceLT,Nat.reduceBNe,EE.down]
  ·rfl
  ·rfl
  ·simp[liveAll,A1.live,C.live]
  ·rfl
  ·decide
  ·exact trivial
  refine ww ?_
  cases h
  exact eF []
 refine ww ?_
 cases h
 exact eF []
def F59(x0:TStore)(x1:Object)(x2:Int):Option (TStore×Object×Int):=(((F14 x1).bind fun t2=>(if(nb t2)=true then some true else(if x2<0 then some true else some (decide (1000000000000<x2))))).bind fun o1=>(if o1=true then some ((x0,(⟨(⟨(⟨#[]⟩:ByteArray),(⟨#[]⟩:ByteArray),(⟨#[]⟩:ByteArray),0,0,0,0,false,0,[],[],[],[]⟩:Meta),(⟨0,0,(⟨#[]⟩:ByteArray),[],[]⟩:TValue),(⟨0,0,(⟨#[]⟩:ByteArray),[],[]⟩:TValue)⟩:Object),1))else(F56 x1).bind fun t6=>(F55 x0.Objects t6).bind fun t7=>(if 0≤t7 then some ((x0,(⟨(⟨(⟨#[]⟩:ByteArray),(⟨#[]⟩:ByteArray),(⟨#[]⟩:ByteArray),0,0,0,0,false,0,[],[],[],[]⟩:Meta),(⟨0,0,(⟨#[]⟩:ByteArray),[],[]⟩:TValue),(⟨0,0,(⟨#[]⟩:ByteArray),[],[]⟩:TValue)⟩:Object),8))else(((if 500≤(x0.Objects.length:Int)then some true else(if 1000000000000000≤x0.Rev then some true else some (decide (1000000000000000≤x0.NextUid))))).bind fun o9=>(if o9=true then some ((x0,(⟨(⟨(⟨#[]⟩:ByteArray),(⟨#[]⟩:ByteArray),(⟨#[]⟩:ByteArray),0,0,0,0,false,0,[],[],[],[]⟩:Meta),(⟨0,0,(⟨#[]⟩:ByteArray),[],[]⟩:TValue),(⟨0,0,(⟨#[]⟩:ByteArray),[],[]⟩:TValue)⟩:Object),15))else(F96 ((⟨x0.Rev,x0.Floor,(IntKind.i64.wrap (x0.NextUid+1)),x0.Base,x0.Objects,x0.History⟩:TStore)) 1 ((⟨(⟨x1.Meta.Kind,x1.Meta.Namespace,x1.Meta.Name,x0.NextUid,x1.Meta.Version,1,x2,false,0,x1.Meta.Labels,x1.Meta.Owners,x1.Meta.Finalizers,x1.Meta.Managers⟩:Meta),x1.Spec,x1.Status⟩:Object))).bind fun t13=>some (((⟨t13.1,t13.2.1,((IntKind.i64.wrap (x0.NextUid+1))),t13.2.2.1,t13.2.2.2.1,t13.2.2.2.2⟩:TStore),(⟨(⟨x1.Meta.Kind,x1.Meta.Namespace,x1.Meta.Name,x0.NextUid,(IntKind.i64.wrap (x0.Rev+1)),(1:Int),x2,false,(0:Int),x1.Meta.Labels,x1.Meta.Owners,x1.Meta.Finalizers,x1.Meta.Managers⟩:Meta),x1.Spec,x1.Status⟩:Object),0)))))))
def a59:AFn:=⟨71,[(.cell 6 (some 6)),(.cell 7 (some 23)),(.tmp 8)],
 (.seq (.reg [sq 3 (.box (.t 0)),
sq 4 (.box (.t 1)),
sq 6 (.zbox [dI 0,dI 0,dI 0,dN,dN,dN]),
sq 7 (.zbox [dS ⟨#[]⟩,dS ⟨#[]⟩,dS ⟨#[]⟩,dI 0,dI 0,dI 0,dI 0,dB false,dI 0,dN,dN,dN,dN,dI 0,dI 0,dS ⟨#[]⟩,dN,dN,dI 0,dI 0,dS ⟨#[]⟩,dN,dN]),
sq 8 (.mv (kI 0))])
 (.seq (.seq (.sem (.reg [sq 9 (.load (some 23) (.t 4)),
sq 10 (.call 14 [(.t 9)]),
sq 11 (.not (.t 10)),
sq 12 (.mv (.t 11)),
zg 13 12 false (.mv (.t 2)),
zg 14 12 false (.bin .lss (.t 13) (kI 0)),
sq 15 (.pick (.t 12) (kB true) (.t 14)),
sq 16 (.mv (.t 15)),
zg 17 16 false (.mv (.t 2)),
zg 18 16 false (.bin .gtr (.t 17) (kI 1000000000000)),
sq 19 (.pick (.t 16) (kB true) (.t 18))]))
 (.cond (.t 19)
 (.seq (.reg [sq 20 (.load (some 6) (.t 3)),
sq 21 (.build [dS ⟨#[]⟩,dS ⟨#[]⟩,dS ⟨#[]⟩,dI 0,dI 0,dI 0,dI 0,dB false,dI 0,dN,dN,dN,dN,dI 0,dI 0,dS ⟨#[]⟩,dN,dN,dI 0,dI 0,dS ⟨#[]⟩,dN,dN] []),
su (.store 6 (.t 6) (.t 20)),
su (.store 23 (.t 7) (.t 21)),
sq 8 (.mv (kI 1))])
 .ret)
 .skip))
 (.seq (.seq (.regd [sq 22 (.fieldA 4 (.t 3)),
sd 23 (.load none (.t 22)) [0],
sq 24 (.load (some 23) (.t 4)),
zl 25 (.call 56 [(.t 24)]) [2] [3,22],
zl 26 (.call 55 [(.t 23),(.t 25)]) [0,1,2,3] [],
sd 27 (.bin .geq (.t 26) (kI 0)) [0,1,2,3,4]])
 (.cond (.t 27)
 (.seq (.reg [sq 28 (.load (some 6) (.t 3)),
sq 29 (.build [dS ⟨#[]⟩,dS ⟨#[]⟩,dS ⟨#[]⟩,dI 0,dI 0,dI 0,dI 0,dB false,dI 0,dN,dN,dN,dN,dI 0,dI 0,dS ⟨#[]⟩,dN,dN,dI 0,dI 0,dS ⟨#[]⟩,dN,dN] []),
su (.store 6 (.t 6) (.t 28)),
su (.store 23 (.t 7) (.t 29)),
sq 8 (.mv (kI 8))])
 .ret)
 .skip))
 (.seq (.seq (.sem (.reg [sq 30 (.fieldA 4 (.t 3)),
sq 31 (.load none (.t 30)),
sq 32 (.len (.t 31)),
sq 33 (.bin .geq (.t 32) (kI 500)),
sq 34 (.mv (.t 33)),
zg 35 34 false (.fieldA 0 (.t 3)),
zg 36 34 false (.load none (.t 35)),
zg 37 34 false (.bin .geq (.t 36) (kI 1000000000000000)),
sq 38 (.pick (.t 34) (kB true) (.t 37)),
sq 39 (.mv (.t 38)),
zg 40 39 false (.fieldA 2 (.t 3)),
zg 41 39 false (.load none (.t 40)),
zg 42 39 false (.bin .geq (.t 41) (kI 1000000000000000)),
sq 43 (.pick (.t 39) (kB true) (.t 42))]))
 (.cond (.t 43)
 (.seq (.reg [sq 44 (.load (some 6) (.t 3)),
sq 45 (.build [dS ⟨#[]⟩,dS ⟨#[]⟩,dS ⟨#[]⟩,dI 0,dI 0,dI 0,dI 0,dB false,dI 0,dN,dN,dN,dN,dI 0,dI 0,dS ⟨#[]⟩,dN,dN,dI 0,dI 0,dS ⟨#[]⟩,dN,dN] []),
su (.store 6 (.t 6) (.t 44)),
su (.store 23 (.t 7) (.t 45)),
sq 8 (.mv (kI 15))])
 .ret)
 .skip))
 (.seq (.reg [sq 46 (.fieldA 2 (.t 3)),
sq 47 (.load none (.t 46)),
sq 48 (.fieldA 0 (.t 4)),
sq 49 (.fieldA 3 (.t 48)),
⟨none,none,.store 1 (.t 49) (.t 47),[],(.lone [3,46,4,48])⟩])
 (.seq (.reg [sq 50 (.fieldA 0 (.t 4)),
sq 51 (.fieldA 5 (.t 50)),
⟨none,none,.store 1 (.t 51) (kI 1),[],(.lone [4,50])⟩])
 (.seq (.reg [sq 52 (.mv (.t 2)),
sq 53 (.fieldA 0 (.t 4)),
sq 54 (.fieldA 6 (.t 53)),
⟨none,none,.store 1 (.t 54) (.t 52),[],(.lone [4,53])⟩])
 (.seq (.reg [sq 55 (.fieldA 0 (.t 4)),
sq 56 (.fieldA 7 (.t 55)),
⟨none,none,.store 1 (.t 56) (kB false),[],(.lone [4,55])⟩])
 (.seq (.reg [sq 57 (.fieldA 0 (.t 4)),
sq 58 (.fieldA 8 (.t 57)),
⟨none,none,.store 1 (.t 58) (kI 0),[],(.lone [4,57])⟩])
 (.seq (.reg [sq 59 (.fieldA 2 (.t 3)),
sq 60 (.load none (.t 59)),
sq 61 (.bin .add (.t 60) (kI 1)),
sq 62 (.fieldA 2 (.t 3)),
⟨none,none,.store 1 (.t 62) (.t 61),[],(.lone [3,59,3])⟩])
 (.seq (.reg [sq 64 (.load (some 6) (.t 3)),
sq 65 (.load (some 23) (.t 4)),
sq 66 (.call 96 [(.t 64),(kI 1),(.t 65)]),
sq 63 (.mv (.t 66)),
sq 67 (.ext (.t 63) 0),
sq 68 (.ext (.t 63) 1),
su (.store 6 (.t 3) (.t 67)),
su (.store 23 (.t 4) (.t 68))])
 (.seq (.regd [sq 69 (.load (some 6) (.t 3)),
sq 70 (.load (some 23) (.t 4)),
⟨none,none,.store 6 (.t 6) (.t 69),[0],(.lone [4])⟩,
⟨none,none,.store 23 (.t 7) (.t 70),[0,1,2],(.lone [])⟩,
sd 8 (.mv (kI 0)) [0,1,2,3]])
 .ret))))))))))))⟩
theorem F59_ok{x0 x1 x2 r}(h:F59 x0 x1 x2=some r):CallD Tryz.prog 59 [.agg [dI x0.Rev,dI x0.Floor,dI x0.NextUid,dM (x0.Base.map eObject),dM (x0.Objects.map eObject),dM (x0.History.map eChange)],.agg [dS x1.Meta.Kind,dS x1.Meta.Namespace,dS x1.Meta.Name,dI x1.Meta.Uid,dI x1.Meta.Version,dI x1.Meta.Generation,dI x1.Meta.Created,dB x1.Meta.Deleting,dI x1.Meta.DeleteAt,dM (x1.Meta.Labels.map eLabel),dM (x1.Meta.Owners.map eOwner),dM (x1.Meta.Finalizers.map eS),dM (x1.Meta.Managers.map eManager),dI x1.Spec.Kind,dI x1.Spec.N,dS x1.Spec.S,dM (x1.Spec.List_.map eTValue),dM (x1.Spec.Fields.map eTField),dI x1.Status.Kind,dI x1.Status.N,dS x1.Status.S,dM (x1.Status.List_.map eTValue),dM (x1.Status.Fields.map eTField)],.c (dI x2)] [] (tupV [.agg [dI ((r.1).Rev),dI ((r.1).Floor),dI ((r.1).NextUid),dM (((r.1).Base).map eObject),dM (((r.1).Objects).map eObject),dM (((r.1).History).map eChange)],.agg [dS ((r.2.1).Meta.Kind),dS ((r.2.1).Meta.Namespace),dS ((r.2.1).Meta.Name),dI ((r.2.1).Meta.Uid),dI ((r.2.1).Meta.Version),dI ((r.2.1).Meta.Generation),dI ((r.2.1).Meta.Created),dB ((r.2.1).Meta.Deleting),dI ((r.2.1).Meta.DeleteAt),dM (((r.2.1).Meta.Labels).map eLabel),dM (((r.2.1).Meta.Owners).map eOwner),dM (((r.2.1).Meta.Finalizers).map eS),dM (((r.2.1).Meta.Managers).map eManager),dI ((r.2.1).Spec.Kind),dI ((r.2.1).Spec.N),dS ((r.2.1).Spec.S),dM (((r.2.1).Spec.List_).map eTValue),dM (((r.2.1).Spec.Fields).map eTField),dI ((r.2.1).Status.Kind),dI ((r.2.1).Status.N),dS ((r.2.1).Status.S),dM (((r.2.1).Status.List_).map eTValue),dM (((r.2.1).Status.Fields).map eTField)],.c (dI r.2.2)]) []:=by
 rw[F59]at h
 refine zc a59 (by kernel_rfl) rfl (ww ?_)
 obtain⟨o1,ho,h⟩:=bi h
 refine cutS (fun s=>s=⟨[(2,.one (.c (dI x2))),(3,.one (.c (.pt 0 0))),(4,.one (.c (.pt 1 0))),(6,.one (.c (.pt 2 0))),(7,.one (.c (.pt 3 0))),(19,.one (.c (dB o1)))],[some (.box [dI x0.Rev,dI x0.Floor,dI x0.NextUid,dM (x0.Base.map eObject),dM (x0.Objects.map eObject),dM (x0.History.map eChange)]),some (.box [dS x1.Meta.Kind,dS x1.Meta.Namespace,dS x1.Meta.Name,dI x1.Meta.Uid,dI x1.Meta.Version,dI x1.Meta.Generation,dI x1.Meta.Created,dB x1.Meta.Deleting,dI x1.Meta.DeleteAt,dM (x1.Meta.Labels.map eLabel),dM (x1.Meta.Owners.map eOwner),dM (x1.Meta.Finalizers.map eS),dM (x1.Meta.Managers.map eManager),dI x1.Spec.Kind,dI x1.Spec.N,dS x1.Spec.S,dM (x1.Spec.List_.map eTValue),dM (x1.Spec.Fields.map eTField),dI x1.Status.Kind,dI x1.Status.N,dS x1.Status.S,dM (x1.Status.List_.map eTValue),dM (x1.Status.Fields.map eTField)]),some (.box [dI 0,dI 0,dI 0,dN,dN,dN]),some (.box [dS ((⟨#[]⟩:ByteArray)),dS ((⟨#[]⟩:ByteArray)),dS ((⟨#[]⟩:ByteArray)),dI 0,dI 0,dI 0,dI 0,dB false,dI 0,dN,dN,dN,dN,dI 0,dI 0,dS ((⟨#[]⟩:ByteArray)),dN,dN,dI 0,dI 0,dS ((⟨#[]⟩:ByteArray)),dN,dN])]⟩) ?_ ?_
 ·have h:=ho
  clear ho
  refine ww ?_
  obtain⟨t2,ht2,h⟩:=bi h
  refine cN [] (F14_ok ht2) trivial (ww ?_)
  refine guardSBh h (fun g3 h=>?_) (fun g3 h=>?_)
  ·refine ww ?_
   cases h
   exact eM [some 0,some 1,some 2,some 3] rfl
  refine ww ?_
  refine guardSh h (fun g4 h=>?_) (fun g4 h=>?_)
  ·refine ww ?_
   cases h
   exact eM [some 0,some 1,some 2,some 3] rfl
  refine ww ?_
  cases h
  exact eM [some 0,some 1,some 2,some 3] rfl
 rintro _ rfl
 clear ho
 refine ww ?_
 refine condBh h (fun c5 h=>?_) (fun c5 h=>?_)
 ·refine ww ?_
  cases h
  exact eF []
 refine ww ?_
 obtain⟨t6,ht6,h⟩:=bi h
 refine cN [] (F56_ok ht6) trivial (ww ?_)
 obtain⟨t7,ht7,h⟩:=bi h
 refine cN [] (F55_ok ht7) trivial (ww ?_)
 refine condSh h (fun c8 h=>?_) (fun c8 h=>?_)
 ·refine ww ?_
  cases h
  exact eF []
 refine ww ?_
 obtain⟨o9,ho,h⟩:=bi h
 refine cutS (fun s=>s=⟨[(2,.one (.c (dI x2))),(3,.one (.c (.pt 0 0))),(4,.one (.c (.pt 1 0))),(6,.one (.c (.pt 2 0))),(7,.one (.c (.pt 3 0))),(43,.one (.c (dB o9)))],[some (.box [dI x0.Rev,dI x0.Floor,dI x0.NextUid,dM (x0.Base.map eObject),dM (x0.Objects.map eObject),dM (x0.History.map eChange)]),some (.box [dS x1.Meta.Kind,dS x1.Meta.Namespace,dS x1.Meta.Name,dI x1.Meta.Uid,dI x1.Meta.Version,dI x1.Meta.Generation,dI x1.Meta.Created,dB x1.Meta.Deleting,dI x1.Meta.DeleteAt,dM (x1.Meta.Labels.map eLabel),dM (x1.Meta.Owners.map eOwner),dM (x1.Meta.Finalizers.map eS),dM (x1.Meta.Managers.map eManager),dI x1.Spec.Kind,dI x1.Spec.N,dS x1.Spec.S,dM (x1.Spec.List_.map eTValue),dM (x1.Spec.Fields.map eTField),dI x1.Status.Kind,dI x1.Status.N,dS x1.Status.S,dM (x1.Status.List_.map eTValue),dM (x1.Status.Fields.map eTField)]),some (.box [dI 0,dI 0,dI 0,dN,dN,dN]),some (.box [dS ((⟨#[]⟩:ByteArray)),dS ((⟨#[]⟩:ByteArray)),dS ((⟨#[]⟩:ByteArray)),dI 0,dI 0,dI 0,dI 0,dB false,dI 0,dN,dN,dN,dN,dI 0,dI 0,dS ((⟨#[]⟩:ByteArray)),dN,dN,dI 0,dI 0,dS ((⟨#[]⟩:ByteArray)),dN,dN])]⟩) ?_ ?_
 ·have h:=ho
  clear ho
  refine ww ?_
  refine guardSh h (fun g10 h=>?_) (fun g10 h=>?_)
  ·refine ww ?_
   cases h
   exact eM [some 0,some 1,some 2,some 3] rfl
  refine ww ?_
  refine guardSh h (fun g11 h=>?_) (fun g11 h=>?_)
  ·refine ww ?_
   cases h
   exact eM [some 0,some 1,some 2,some 3] rfl
  refine ww ?_
  cases h
  exact eM [some 0,some 1,some 2,some 3] rfl
 rintro _ rfl
 clear ho
 refine ww ?_
 refine condBh h (fun c12 h=>?_) (fun c12 h=>?_)
 ·refine ww ?_
  cases h
  exact eF []
 refine ww ?_
 obtain⟨t13,ht13,h⟩:=bi h
 refine cN [] (F96_ok ht13) trivial (ww ?_)
 cases h
 exact eF []
def F60(x0:TStore)(x1:Object):Option (TStore×Object×Int):=(F14 x1).bind fun t1=>(if(nb t1)=true then some ((x0,(⟨(⟨(⟨#[]⟩:ByteArray),(⟨#[]⟩:ByteArray),(⟨#[]⟩:ByteArray),0,0,0,0,false,0,[],[],[],[]⟩:Meta),(⟨0,0,(⟨#[]⟩:ByteArray),[],[]⟩:TValue),(⟨0,0,(⟨#[]⟩:ByteArray),[],[]⟩:TValue)⟩:Object),1))else(F56 x1).bind fun t3=>(F55 x0.Objects t3).bind fun t4=>(if t4<0 then some ((x0,(⟨(⟨(⟨#[]⟩:ByteArray),(⟨#[]⟩:ByteArray),(⟨#[]⟩:ByteArray),0,0,0,0,false,0,[],[],[],[]⟩:Meta),(⟨0,0,(⟨#[]⟩:ByteArray),[],[]⟩:TValue),(⟨0,0,(⟨#[]⟩:ByteArray),[],[]⟩:TValue)⟩:Object),7))else(rdI x0.Objects t4).bind fun y6=>(((if¬(x1.Meta.Version=0)then(if¬(x1.Meta.Version=y6.Meta.Version)then some true else(if¬(x1.Meta.Uid=0)then some (decide (¬(x1.Meta.Uid=y6.Meta.Uid)))else some false))else(if¬(x1.Meta.Uid=0)then some (decide (¬(x1.Meta.Uid=y6.Meta.Uid)))else some false))).bind fun o7=>(if o7=true then some ((x0,(⟨(⟨(⟨#[]⟩:ByteArray),(⟨#[]⟩:ByteArray),(⟨#[]⟩:ByteArray),0,0,0,0,false,0,[],[],[],[]⟩:Meta),(⟨0,0,(⟨#[]⟩:ByteArray),[],[]⟩:TValue),(⟨0,0,(⟨#[]⟩:ByteArray),[],[]⟩:TValue)⟩:Object),9))else(((F64 x1.Spec y6.Spec).bind fun t14=>(if(nb t14)=true then some ((IntKind.i64.wrap (y6.Meta.Generation+1)))else some y6.Meta.Generation)).bind fun o13=>(F24 ((⟨(⟨x1.Meta.Kind,x1.Meta.Namespace,x1.Meta.Name,y6.Meta.Uid,y6.Meta.Version,o13,y6.Meta.Created,x1.Meta.Deleting,x1.Meta.DeleteAt,x1.Meta.Labels,x1.Meta.Owners,x1.Meta.Finalizers,x1.Meta.Managers⟩:Meta),x1.Spec,x1.Status⟩:Object)) y6).bind fun t16=>(if t16=true then some ((x0,y6,0))else(if 1000000000000000≤x0.Rev then some ((x0,(⟨(⟨(⟨#[]⟩:ByteArray),(⟨#[]⟩:ByteArray),(⟨#[]⟩:ByteArray),0,0,0,0,false,0,[],[],[],[]⟩:Meta),(⟨0,0,(⟨#[]⟩:ByteArray),[],[]⟩:TValue),(⟨0,0,(⟨#[]⟩:ByteArray),[],[]⟩:TValue)⟩:Object),15))else(F96 x0 1 ((⟨(⟨x1.Meta.Kind,x1.Meta.Namespace,x1.Meta.Name,y6.Meta.Uid,y6.Meta.Version,o13,y6.Meta.Created,x1.Meta.Deleting,x1.Meta.DeleteAt,x1.Meta.Labels,x1.Meta.Owners,x1.Meta.Finalizers,x1.Meta.Managers⟩:Meta),x1.Spec,x1.Status⟩:Object))).bind fun t19=>some (((⟨t19.1,t19.2.1,x0.NextUid,t19.2.2.1,t19.2.2.2.1,t19.2.2.2.2⟩:TStore),(⟨(⟨x1.Meta.Kind,x1.Meta.Namespace,x1.Meta.Name,y6.Meta.Uid,(IntKind.i64.wrap (x0.Rev+1)),o13,y6.Meta.Created,x1.Meta.Deleting,x1.Meta.DeleteAt,x1.Meta.Labels,x1.Meta.Owners,x1.Meta.Finalizers,x1.Meta.Managers⟩:Meta),x1.Spec,x1.Status⟩:Object),0)))))))))
def a60:AFn:=⟨108,[(.cell 4 (some 6)),(.cell 5 (some 23)),(.tmp 6)],
 (.seq (.reg [sq 2 (.box (.t 0)),
sq 3 (.box (.t 1)),
sq 4 (.zbox [dI 0,dI 0,dI 0,dN,dN,dN]),
sq 5 (.zbox [dS ⟨#[]⟩,dS ⟨#[]⟩,dS ⟨#[]⟩,dI 0,dI 0,dI 0,dI 0,dB false,dI 0,dN,dN,dN,dN,dI 0,dI 0,dS ⟨#[]⟩,dN,dN,dI 0,dI 0,dS ⟨#[]⟩,dN,dN]),
sq 6 (.mv (kI 0))])
 (.seq (.seq (.reg [sq 9 (.load (some 23) (.t 3)),
sq 10 (.call 14 [(.t 9)]),
sq 11 (.not (.t 10))])
 (.cond (.t 11)
 (.seq (.reg [sq 12 (.load (some 6) (.t 2)),
sq 13 (.build [dS ⟨#[]⟩,dS ⟨#[]⟩,dS ⟨#[]⟩,dI 0,dI 0,dI 0,dI 0,dB false,dI 0,dN,dN,dN,dN,dI 0,dI 0,dS ⟨#[]⟩,dN,dN,dI 0,dI 0,dS ⟨#[]⟩,dN,dN] []),
su (.store 6 (.t 4) (.t 12)),
su (.store 23 (.t 5) (.t 13)),
sq 6 (.mv (kI 1))])
 .ret)
 .skip))
 (.seq (.regd [sq 14 (.fieldA 4 (.t 2)),
sd 15 (.load none (.t 14)) [0],
sq 16 (.load (some 23) (.t 3)),
zl 17 (.call 56 [(.t 16)]) [2] [2,14],
zl 18 (.call 55 [(.t 15),(.t 17)]) [0,1,2,3] [],
sd 7 (.mv (.t 18)) [0,1,2,3,4]])
 (.seq (.seq (.reg [sq 19 (.mv (.t 7)),
sq 20 (.bin .lss (.t 19) (kI 0))])
 (.cond (.t 20)
 (.seq (.reg [sq 21 (.load (some 6) (.t 2)),
sq 22 (.build [dS ⟨#[]⟩,dS ⟨#[]⟩,dS ⟨#[]⟩,dI 0,dI 0,dI 0,dI 0,dB false,dI 0,dN,dN,dN,dN,dI 0,dI 0,dS ⟨#[]⟩,dN,dN,dI 0,dI 0,dS ⟨#[]⟩,dN,dN] []),
su (.store 6 (.t 4) (.t 21)),
su (.store 23 (.t 5) (.t 22)),
sq 6 (.mv (kI 7))])
 .ret)
 .skip))
 (.seq (.reg [sq 23 (.fieldA 4 (.t 2)),
sq 24 (.load none (.t 23)),
sq 25 (.mv (.t 7)),
sq 26 (.indexA 23 (.t 24) (.t 25)),
sq 27 (.load (some 23) (.t 26)),
sq 8 (.zbox [dS ⟨#[]⟩,dS ⟨#[]⟩,dS ⟨#[]⟩,dI 0,dI 0,dI 0,dI 0,dB false,dI 0,dN,dN,dN,dN,dI 0,dI 0,dS ⟨#[]⟩,dN,dN,dI 0,dI 0,dS ⟨#[]⟩,dN,dN]),
su (.store 23 (.t 8) (.t 27))])
 (.seq (.seq (.sem (.reg [sq 28 (.fieldA 0 (.t 3)),
sq 29 (.fieldA 4 (.t 28)),
sq 30 (.load none (.t 29)),
sq 31 (.bin .neq (.t 30) (kI 0)),
sq 32 (.mv (.t 31)),
zg 33 32 true (.fieldA 0 (.t 3)),
zg 34 32 true (.fieldA 4 (.t 33)),
zg 35 32 true (.load none (.t 34)),
zg 36 32 true (.fieldA 0 (.t 8)),
zg 37 32 true (.fieldA 4 (.t 36)),
zg 38 32 true (.load none (.t 37)),
zg 39 32 true (.bin .neq (.t 35) (.t 38)),
sq 40 (.pick (.t 32) (.t 39) (kB false)),
sq 41 (.mv (.t 40)),
zg 42 41 false (.fieldA 0 (.t 3)),
zg 43 41 false (.fieldA 3 (.t 42)),
zg 44 41 false (.load none (.t 43)),
zg 45 41 false (.bin .neq (.t 44) (kI 0)),
zg 46 41 false (.mv (.t 45)),
zg 47 46 true (.fieldA 0 (.t 3)),
zg 48 46 true (.fieldA 3 (.t 47)),
zg 49 46 true (.load none (.t 48)),
zg 50 46 true (.fieldA 0 (.t 8)),
zg 51 46 true (.fieldA 3 (.t 50)),
zg 52 46 true (.load none (.t 51)),
zg 53 46 true (.bin .neq (.t 49) (.t 52)),
zg 54 41 false (.pick (.t 46) (.t 53) (kB false)),
sq 55 (.pick (.t 41) (kB true) (.t 54))]))
 (.cond (.t 55)
 (.seq (.reg [sq 56 (.load (some 6) (.t 2)),
sq 57 (.build [dS ⟨#[]⟩,dS ⟨#[]⟩,dS ⟨#[]⟩,dI 0,dI 0,dI 0,dI 0,dB false,dI 0,dN,dN,dN,dN,dI 0,dI 0,dS ⟨#[]⟩,dN,dN,dI 0,dI 0,dS ⟨#[]⟩,dN,dN] []),
su (.store 6 (.t 4) (.t 56)),
su (.store 23 (.t 5) (.t 57)),
sq 6 (.mv (kI 9))])
 .ret)
 .skip))
 (.seq (.reg [sq 58 (.fieldA 0 (.t 8)),
sq 59 (.fieldA 3 (.t 58)),
sq 60 (.load none (.t 59)),
sq 61 (.fieldA 0 (.t 3)),
sq 62 (.fieldA 3 (.t 61)),
⟨none,none,.store 1 (.t 62) (.t 60),[],(.lone [8,58,59,3,61])⟩])
 (.seq (.reg [sq 63 (.fieldA 0 (.t 8)),
sq 64 (.fieldA 6 (.t 63)),
sq 65 (.load none (.t 64)),
sq 66 (.fieldA 0 (.t 3)),
sq 67 (.fieldA 6 (.t 66)),
⟨none,none,.store 1 (.t 67) (.t 65),[],(.lone [8,63,64,3,66])⟩])
 (.seq (.reg [sq 68 (.fieldA 0 (.t 8)),
sq 69 (.fieldA 5 (.t 68)),
sq 70 (.load none (.t 69)),
sq 71 (.fieldA 0 (.t 3)),
sq 72 (.fieldA 5 (.t 71)),
⟨none,none,.store 1 (.t 72) (.t 70),[],(.lone [8,68,69,3,71])⟩])
 (.seq (.reg [sq 73 (.fieldA 0 (.t 8)),
sq 74 (.fieldA 4 (.t 73)),
sq 75 (.load none (.t 74)),
sq 76 (.fieldA 0 (.t 3)),
sq 77 (.fieldA 4 (.t 76)),
⟨none,none,.store 1 (.t 77) (.t 75),[],(.lone [8,73,74,3,76])⟩])
 (.seq (.sem (.seq (.reg [sq 78 (.fieldA 13 (.t 3)),
sq 79 (.load (some 5) (.t 78)),
sq 80 (.fieldA 13 (.t 8)),
sq 81 (.load (some 5) (.t 80)),
sq 82 (.call 64 [(.t 79),(.t 81)]),
sq 83 (.not (.t 82))])
 (.cond (.t 83)
 (.reg [sq 84 (.fieldA 0 (.t 3)),
sq 85 (.fieldA 5 (.t 84)),
sq 86 (.load none (.t 85)),
sq 87 (.bin .add (.t 86) (kI 1)),
sq 88 (.fieldA 0 (.t 3)),
sq 89 (.fieldA 5 (.t 88)),
⟨none,none,.store 1 (.t 89) (.t 87),[],(.lone [3,84,85,3,88])⟩])
 .skip)))
 (.seq (.seq (.reg [sq 90 (.load (some 23) (.t 3)),
sq 91 (.load (some 23) (.t 8)),
zl 92 (.call 24 [(.t 90),(.t 91)]) [] [3,8]])
 (.cond (.t 92)
 (.seq (.regd [sq 93 (.load (some 6) (.t 2)),
sq 94 (.load (some 23) (.t 8)),
⟨none,none,.store 6 (.t 4) (.t 93),[0],(.lone [8])⟩,
⟨none,none,.store 23 (.t 5) (.t 94),[0,1,2],(.lone [])⟩,
sd 6 (.mv (kI 0)) [0,1,2,3]])
 .ret)
 .skip))
 (.seq (.seq (.reg [sq 95 (.fieldA 0 (.t 2)),
sq 96 (.load none (.t 95)),
sq 97 (.bin .geq (.t 96) (kI 1000000000000000))])
 (.cond (.t 97)
 (.seq (.reg [sq 98 (.load (some 6) (.t 2)),
sq 99 (.build [dS ⟨#[]⟩,dS ⟨#[]⟩,dS ⟨#[]⟩,dI 0,dI 0,dI 0,dI 0,dB false,dI 0,dN,dN,dN,dN,dI 0,dI 0,dS ⟨#[]⟩,dN,dN,dI 0,dI 0,dS ⟨#[]⟩,dN,dN] []),
su (.store 6 (.t 4) (.t 98)),
su (.store 23 (.t 5) (.t 99)),
sq 6 (.mv (kI 15))])
 .ret)
 .skip))
 (.seq (.reg [sq 101 (.load (some 6) (.t 2)),
sq 102 (.load (some 23) (.t 3)),
sq 103 (.call 96 [(.t 101),(kI 1),(.t 102)]),
sq 100 (.mv (.t 103)),
sq 104 (.ext (.t 100) 0),
sq 105 (.ext (.t 100) 1),
su (.store 6 (.t 2) (.t 104)),
su (.store 23 (.t 3) (.t 105))])
 (.seq (.regd [sq 106 (.load (some 6) (.t 2)),
sq 107 (.load (some 23) (.t 3)),
⟨none,none,.store 6 (.t 4) (.t 106),[0],(.lone [3])⟩,
⟨none,none,.store 23 (.t 5) (.t 107),[0,1,2],(.lone [])⟩,
sd 6 (.mv (kI 0)) [0,1,2,3]])
 .ret)))))))))))))))⟩
theorem F60_ok{x0 x1 r}(h:F60 x0 x1=some r):CallD Tryz.prog 60 [.agg [dI x0.Rev,dI x0.Floor,dI x0.NextUid,dM (x0.Base.map eObject),dM (x0.Objects.map eObject),dM (x0.History.map eChange)],.agg [dS x1.Meta.Kind,dS x1.Meta.Namespace,dS x1.Meta.Name,dI x1.Meta.Uid,dI x1.Meta.Version,dI x1.Meta.Generation,dI x1.Meta.Created,dB x1.Meta.Deleting,dI x1.Meta.DeleteAt,dM (x1.Meta.Labels.map eLabel),dM (x1.Meta.Owners.map eOwner),dM (x1.Meta.Finalizers.map eS),dM (x1.Meta.Managers.map eManager),dI x1.Spec.Kind,dI x1.Spec.N,dS x1.Spec.S,dM (x1.Spec.List_.map eTValue),dM (x1.Spec.Fields.map eTField),dI x1.Status.Kind,dI x1.Status.N,dS x1.Status.S,dM (x1.Status.List_.map eTValue),dM (x1.Status.Fields.map eTField)]] [] (tupV [.agg [dI ((r.1).Rev),dI ((r.1).Floor),dI ((r.1).NextUid),dM (((r.1).Base).map eObject),dM (((r.1).Objects).map eObject),dM (((r.1).History).map eChange)],.agg [dS ((r.2.1).Meta.Kind),dS ((r.2.1).Meta.Namespace),dS ((r.2.1).Meta.Name),dI ((r.2.1).Meta.Uid),dI ((r.2.1).Meta.Version),dI ((r.2.1).Meta.Generation),dI ((r.2.1).Meta.Created),dB ((r.2.1).Meta.Deleting),dI ((r.2.1).Meta.DeleteAt),dM (((r.2.1).Meta.Labels).map eLabel),dM (((r.2.1).Meta.Owners).map eOwner),dM (((r.2.1).Meta.Finalizers).map eS),dM (((r.2.1).Meta.Managers).map eManager),dI ((r.2.1).Spec.Kind),dI ((r.2.1).Spec.N),dS ((r.2.1).Spec.S),dM (((r.2.1).Spec.List_).map eTValue),dM (((r.2.1).Spec.Fields).map eTField),dI ((r.2.1).Status.Kind),dI ((r.2.1).Status.N),dS ((r.2.1).Status.S),dM (((r.2.1).Status.List_).map eTValue),dM (((r.2.1).Status.Fields).map eTField)],.c (dI r.2.2)]) []:=by
 rw[F60]at h
 refine zc a60 (by kernel_rfl) rfl (ww ?_)
 obtain⟨t1,ht1,h⟩:=bi h
 refine cN [] (F14_ok ht1) trivial (ww ?_)
 refine condBh h (fun c2 h=>?_) (fun c2 h=>?_)
 ·refine ww ?_
  cases h
  exact eF []
 refine ww ?_
 obtain⟨t3,ht3,h⟩:=bi h
 refine cN [] (F56_ok ht3) trivial (ww ?_)
 obtain⟨t4,ht4,h⟩:=bi h
 refine cN [] (F55_ok ht4) trivial (ww ?_)
 refine condSh h (fun c5 h=>?_) (fun c5 h=>?_)
 ·refine ww ?_
  cases h
  exact eF []
 refine ww ?_
 obtain⟨y6,hy6,h⟩:=bi h
 refine t_idxF (enc:=eObject) (xs:=x0.Objects) rfl rfl hy6 rfl (ww ?_)
 obtain⟨o7,ho,h⟩:=bi h
 refine cutS (fun s=>s=⟨[(2,.one (.c (.pt 0 0))),(3,.one (.c (.pt 1 0))),(4,.one (.c (.pt 2 0))),(5,.one (.c (.pt 3 0))),(8,.one (.c (.pt 4 0))),(55,.one (.c (dB o7)))],[some (.box [dI x0.Rev,dI x0.Floor,dI x0.NextUid,dM (x0.Base.map eObject),dM (x0.Objects.map eObject),dM (x0.History.map eChange)]),some (.box [dS x1.Meta.Kind,dS x1.Meta.Namespace,dS x1.Meta.Name,dI x1.Meta.Uid,dI x1.Meta.Version,dI x1.Meta.Generation,dI x1.Meta.Created,dB x1.Meta.Deleting,dI x1.Meta.DeleteAt,dM (x1.Meta.Labels.map eLabel),dM (x1.Meta.Owners.map eOwner),dM (x1.Meta.Finalizers.map eS),dM (x1.Meta.Managers.map eManager),dI x1.Spec.Kind,dI x1.Spec.N,dS x1.Spec.S,dM (x1.Spec.List_.map eTValue),dM (x1.Spec.Fields.map eTField),dI x1.Status.Kind,dI x1.Status.N,dS x1.Status.S,dM (x1.Status.List_.map eTValue),dM (x1.Status.Fields.map eTField)]),some (.box [dI 0,dI 0,dI 0,dN,dN,dN]),some (.box [dS ((⟨#[]⟩:ByteArray)),dS ((⟨#[]⟩:ByteArray)),dS ((⟨#[]⟩:ByteArray)),dI 0,dI 0,dI 0,dI 0,dB false,dI 0,dN,dN,dN,dN,dI 0,dI 0,dS ((⟨#[]⟩:ByteArray)),dN,dN,dI 0,dI 0,dS ((⟨#[]⟩:ByteArray)),dN,dN]),some (.box [dS y6.Meta.Kind,dS y6.Meta.Namespace,dS y6.Meta.Name,dI y6.Meta.Uid,dI y6.Meta.Version,dI y6.Meta.Generation,dI y6.Meta.Created,dB y6.Meta.Deleting,dI y6.Meta.DeleteAt,dM (y6.Meta.Labels.map eLabel),dM (y6.Meta.Owners.map eOwner),dM (y6.Meta.Finalizers.map eS),dM (y6.Meta.Managers.map eManager),dI y6.Spec.Kind,dI y6.Spec.N,dS y6.Spec.S,dM (y6.Spec.List_.map eTValue),dM (y6.Spec.Fields.map eTField),dI y6.Status.Kind,dI y6.Status.N,dS y6.Status.S,dM (y6.Status.List_.map eTValue),dM (y6.Status.Fields.map eTField)])]⟩) ?_ ?_
 ·have h:=ho
  clear ho
  refine ww ?_
  refine guardSh h (fun g8 h=>?_) (fun g8 h=>?_)
  ·refine ww ?_
   refine guardSh h (fun g9 h=>?_) (fun g9 h=>?_)
   ·refine ww ?_
    cases h
    exact eM [some 0,some 1,some 2,some 3,some 4] rfl
   refine ww ?_
   refine guardSh h (fun g10 h=>?_) (fun g10 h=>?_)
   ·refine ww ?_
    cases h
    exact eM [some 0,some 1,some 2,some 3,some 4] rfl
   refine ww ?_
   cases h
   exact eM [some 0,some 1,some 2,some 3,some 4] rfl
  refine ww ?_
  refine guardSh h (fun g11 h=>?_) (fun g11 h=>?_)
  ·refine ww ?_
   cases h
   exact eM [some 0,some 1,some 2,some 3,some 4] rfl
  refine ww ?_
  cases h
  exact eM [some 0,some 1,some 2,some 3,some 4] rfl
 rintro _ rfl
 clear ho
 refine ww ?_
 refine condBh h (fun c12 h=>?_) (fun c12 h=>?_)
 ·refine ww ?_
  cases h
  exact eF []
 refine ww ?_
 obtain⟨o13,ho,h⟩:=bi h
 refine cutS (fun s=>s=⟨[(2,.one (.c (.pt 0 0))),(3,.one (.c (.pt 1 0))),(4,.one (.c (.pt 2 0))),(5,.one (.c (.pt 3 0))),(8,.one (.c (.pt 4 0)))],[some (.box [dI x0.Rev,dI x0.Floor,dI x0.NextUid,dM (x0.Base.map eObject),dM (x0.Objects.map eObject),dM (x0.History.map eChange)]),some (.box [dS x1.Meta.Kind,dS x1.Meta.Namespace,dS x1.Meta.Name,dI y6.Meta.Uid,dI y6.Meta.Version,dI o13,dI y6.Meta.Created,dB x1.Meta.Deleting,dI x1.Meta.DeleteAt,dM (x1.Meta.Labels.map eLabel),dM (x1.Meta.Owners.map eOwner),dM (x1.Meta.Finalizers.map eS),dM (x1.Meta.Managers.map eManager),dI x1.Spec.Kind,dI x1.Spec.N,dS x1.Spec.S,dM (x1.Spec.List_.map eTValue),dM (x1.Spec.Fields.map eTField),dI x1.Status.Kind,dI x1.Status.N,dS x1.Status.S,dM (x1.Status.List_.map eTValue),dM (x1.Status.Fields.map eTField)]),some (.box [dI 0,dI 0,dI 0,dN,dN,dN]),some (.box [dS ((⟨#[]⟩:ByteArray)),dS ((⟨#[]⟩:ByteArray)),dS ((⟨#[]⟩:ByteArray)),dI 0,dI 0,dI 0,dI 0,dB false,dI 0,dN,dN,dN,dN,dI 0,dI 0,dS ((⟨#[]⟩:ByteArray)),dN,dN,dI 0,dI 0,dS ((⟨#[]⟩:ByteArray)),dN,dN]),some (.box [dS y6.Meta.Kind,dS y6.Meta.Namespace,dS y6.Meta.Name,dI y6.Meta.Uid,dI y6.Meta.Version,dI y6.Meta.Generation,dI y6.Meta.Created,dB y6.Meta.Deleting,dI y6.Meta.DeleteAt,dM (y6.Meta.Labels.map eLabel),dM (y6.Meta.Owners.map eOwner),dM (y6.Meta.Finalizers.map eS),dM (y6.Meta.Managers.map eManager),dI y6.Spec.Kind,dI y6.Spec.N,dS y6.Spec.S,dM (y6.Spec.List_.map eTValue),dM (y6.Spec.Fields.map eTField),dI y6.Status.Kind,dI y6.Status.N,dS y6.Status.S,dM (y6.Status.List_.map eTValue),dM (y6.Status.Fields.map eTField)])]⟩) ?_ ?_
 ·have h:=ho
  clear ho
  refine ww ?_
  obtain⟨t14,ht14,h⟩:=bi h
  refine cN [] (F64_ok ht14) trivial (ww ?_)
  refine condBh h (fun c15 h=>?_) (fun c15 h=>?_)
  ·refine ww ?_
   cases h
   exact eM [some 0,some 1,some 2,some 3,some 4] rfl
  refine ww ?_
  cases h
  exact eM [some 0,some 1,some 2,some 3,some 4] rfl
 rintro _ rfl
 clear ho
 refine ww ?_
 obtain⟨t16,ht16,h⟩:=bi h
 refine cN [] (F24_ok ht16) trivial (ww ?_)
 refine condBh h (fun c17 h=>?_) (fun c17 h=>?_)
 ·refine ww ?_
  cases h
  exact eF []
 refine ww ?_
 refine condSh h (fun c18 h=>?_) (fun c18 h=>?_)
 ·refine ww ?_
  cases h
  exact eF []
 refine ww ?_
 obtain⟨t19,ht19,h⟩:=bi h
 refine cN [] (F96_ok ht19) trivial (ww ?_)
 cases h
 exact eF []
def F61(x0:TStore)(x1:ByteArray)(x2:Int):Option (TStore×Object×Int):=(F55 x0.Objects x1).bind fun t1=>(if t1<0 then some ((x0,(⟨(⟨(⟨#[]⟩:ByteArray),(⟨#[]⟩:ByteArray),(⟨#[]⟩:ByteArray),0,0,0,0,false,0,[],[],[],[]⟩:Meta),(⟨0,0,(⟨#[]⟩:ByteArray),[],[]⟩:TValue),(⟨0,0,(⟨#[]⟩:ByteArray),[],[]⟩:TValue)⟩:Object),7))else(rdI x0.Objects t1).bind fun y3=>(((if¬(x2=0)then some (decide (¬(x2=y3.Meta.Version)))else some false)).bind fun o4=>(if o4=true then some ((x0,(⟨(⟨(⟨#[]⟩:ByteArray),(⟨#[]⟩:ByteArray),(⟨#[]⟩:ByteArray),0,0,0,0,false,0,[],[],[],[]⟩:Meta),(⟨0,0,(⟨#[]⟩:ByteArray),[],[]⟩:TValue),(⟨0,0,(⟨#[]⟩:ByteArray),[],[]⟩:TValue)⟩:Object),9))else(if 1000000000000000≤x0.Rev then some ((x0,(⟨(⟨(⟨#[]⟩:ByteArray),(⟨#[]⟩:ByteArray),(⟨#[]⟩:ByteArray),0,0,0,0,false,0,[],[],[],[]⟩:Meta),(⟨0,0,(⟨#[]⟩:ByteArray),[],[]⟩:TValue),(⟨0,0,(⟨#[]⟩:ByteArray),[],[]⟩:TValue)⟩:Object),15))else(F96 x0 2 y3).bind fun t8=>some (((⟨t8.1,t8.2.1,x0.NextUid,t8.2.2.1,t8.2.2.2.1,t8.2.2.2.2⟩:TStore),(⟨(⟨y3.Meta.Kind,y3.Meta.Namespace,y3.Meta.Name,y3.Meta.Uid,(IntKind.i64.wrap (x0.Rev+1)),y3.Meta.Generation,y3.Meta.Created,y3.Meta.Deleting,y3.Meta.DeleteAt,y3.Meta.Labels,y3.Meta.Owners,y3.Meta.Finalizers,y3.Meta.Managers⟩:Meta),y3.Spec,y3.Status⟩:Object),0))))))
def a61:AFn:=⟨48,[(.cell 6 (some 6)),(.cell 7 (some 23)),(.tmp 8)],
 (.seq (.reg [sq 3 (.box (.t 0)),
sq 6 (.zbox [dI 0,dI 0,dI 0,dN,dN,dN]),
sq 7 (.zbox [dS ⟨#[]⟩,dS ⟨#[]⟩,dS ⟨#[]⟩,dI 0,dI 0,dI 0,dI 0,dB false,dI 0,dN,dN,dN,dN,dI 0,dI 0,dS ⟨#[]⟩,dN,dN,dI 0,dI 0,dS ⟨#[]⟩,dN,dN]),
sq 8 (.mv (kI 0))])
 (.seq (.reg [sq 11 (.fieldA 4 (.t 3)),
sq 12 (.load none (.t 11)),
sq 13 (.mv (.t 1)),
sq 14 (.call 55 [(.t 12),(.t 13)]),
sq 9 (.mv (.t 14))])
 (.seq (.seq (.reg [sq 15 (.mv (.t 9)),
sq 16 (.bin .lss (.t 15) (kI 0))])
 (.cond (.t 16)
 (.seq (.reg [sq 17 (.load (some 6) (.t 3)),
sq 18 (.build [dS ⟨#[]⟩,dS ⟨#[]⟩,dS ⟨#[]⟩,dI 0,dI 0,dI 0,dI 0,dB false,dI 0,dN,dN,dN,dN,dI 0,dI 0,dS ⟨#[]⟩,dN,dN,dI 0,dI 0,dS ⟨#[]⟩,dN,dN] []),
su (.store 6 (.t 6) (.t 17)),
su (.store 23 (.t 7) (.t 18)),
sq 8 (.mv (kI 7))])
 .ret)
 .skip))
 (.seq (.reg [sq 19 (.fieldA 4 (.t 3)),
sq 20 (.load none (.t 19)),
sq 21 (.mv (.t 9)),
sq 22 (.indexA 23 (.t 20) (.t 21)),
sq 23 (.load (some 23) (.t 22)),
sq 10 (.zbox [dS ⟨#[]⟩,dS ⟨#[]⟩,dS ⟨#[]⟩,dI 0,dI 0,dI 0,dI 0,dB false,dI 0,dN,dN,dN,dN,dI 0,dI 0,dS ⟨#[]⟩,dN,dN,dI 0,dI 0,dS ⟨#[]⟩,dN,dN]),
su (.store 23 (.t 10) (.t 23))])
 (.seq (.seq (.sem (.reg [sq 24 (.mv (.t 2)),
sq 25 (.bin .neq (.t 24) (kI 0)),
sq 26 (.mv (.t 25)),
zg 27 26 true (.mv (.t 2)),
zg 28 26 true (.fieldA 0 (.t 10)),
zg 29 26 true (.fieldA 4 (.t 28)),
zg 30 26 true (.load none (.t 29)),
zg 31 26 true (.bin .neq (.t 27) (.t 30)),
zl 32 (.pick (.t 26) (.t 31) (kB false)) [] [10,28,29]]))
 (.cond (.t 32)
 (.seq (.reg [sq 33 (.load (some 6) (.t 3)),
sq 34 (.build [dS ⟨#[]⟩,dS ⟨#[]⟩,dS ⟨#[]⟩,dI 0,dI 0,dI 0,dI 0,dB false,dI 0,dN,dN,dN,dN,dI 0,dI 0,dS ⟨#[]⟩,dN,dN,dI 0,dI 0,dS ⟨#[]⟩,dN,dN] []),
su (.store 6 (.t 6) (.t 33)),
su (.store 23 (.t 7) (.t 34)),
sq 8 (.mv (kI 9))])
 .ret)
 .skip))
 (.seq (.seq (.reg [sq 35 (.fieldA 0 (.t 3)),
sq 36 (.load none (.t 35)),
sq 37 (.bin .geq (.t 36) (kI 1000000000000000))])
 (.cond (.t 37)
 (.seq (.reg [sq 38 (.load (some 6) (.t 3)),
sq 39 (.build [dS ⟨#[]⟩,dS ⟨#[]⟩,dS ⟨#[]⟩,dI 0,dI 0,dI 0,dI 0,dB false,dI 0,dN,dN,dN,dN,dI 0,dI 0,dS ⟨#[]⟩,dN,dN,dI 0,dI 0,dS ⟨#[]⟩,dN,dN] []),
su (.store 6 (.t 6) (.t 38)),
su (.store 23 (.t 7) (.t 39)),
sq 8 (.mv (kI 15))])
 .ret)
 .skip))
 (.seq (.reg [sq 41 (.load (some 6) (.t 3)),
sq 42 (.load (some 23) (.t 10)),
sq 43 (.call 96 [(.t 41),(kI 2),(.t 42)]),
sq 40 (.mv (.t 43)),
sq 44 (.ext (.t 40) 0),
sq 45 (.ext (.t 40) 1),
su (.store 6 (.t 3) (.t 44)),
su (.store 23 (.t 10) (.t 45))])
 (.seq (.regd [sq 46 (.load (some 6) (.t 3)),
sq 47 (.load (some 23) (.t 10)),
⟨none,none,.store 6 (.t 6) (.t 46),[0],(.lone [10])⟩,
⟨none,none,.store 23 (.t 7) (.t 47),[0,1,2],(.lone [])⟩,
sd 8 (.mv (kI 0)) [0,1,2,3]])
 .ret))))))))⟩
theorem F61_ok{x0 x1 x2 r}(h:F61 x0 x1 x2=some r):CallD Tryz.prog 61 [.agg [dI x0.Rev,dI x0.Floor,dI x0.NextUid,dM (x0.Base.map eObject),dM (x0.Objects.map eObject),dM (x0.History.map eChange)],.c (dS x1),.c (dI x2)] [] (tupV [.agg [dI ((r.1).Rev),dI ((r.1).Floor),dI ((r.1).NextUid),dM (((r.1).Base).map eObject),dM (((r.1).Objects).map eObject),dM (((r.1).History).map eChange)],.agg [dS ((r.2.1).Meta.Kind),dS ((r.2.1).Meta.Namespace),dS ((r.2.1).Meta.Name),dI ((r.2.1).Meta.Uid),dI ((r.2.1).Meta.Version),dI ((r.2.1).Meta.Generation),dI ((r.2.1).Meta.Created),dB ((r.2.1).Meta.Deleting),dI ((r.2.1).Meta.DeleteAt),dM (((r.2.1).Meta.Labels).map eLabel),dM (((r.2.1).Meta.Owners).map eOwner),dM (((r.2.1).Meta.Finalizers).map eS),dM (((r.2.1).Meta.Managers).map eManager),dI ((r.2.1).Spec.Kind),dI ((r.2.1).Spec.N),dS ((r.2.1).Spec.S),dM (((r.2.1).Spec.List_).map eTValue),dM (((r.2.1).Spec.Fields).map eTField),dI ((r.2.1).Status.Kind),dI ((r.2.1).Status.N),dS ((r.2.1).Status.S),dM (((r.2.1).Status.List_).map eTValue),dM (((r.2.1).Status.Fields).map eTField)],.c (dI r.2.2)]) []:=by
 rw[F61]at h
 refine zc a61 (by kernel_rfl) rfl (ww ?_)
 obtain⟨t1,ht1,h⟩:=bi h
 refine cN [] (F55_ok ht1) trivial (ww ?_)
 refine condSh h (fun c2 h=>?_) (fun c2 h=>?_)
 ·refine ww ?_
  cases h
  exact eF []
 refine ww ?_
 obtain⟨y3,hy3,h⟩:=bi h
 refine t_idxF (enc:=eObject) (xs:=x0.Objects) rfl rfl hy3 rfl (ww ?_)
 obtain⟨o4,ho,h⟩:=bi h
 refine cutS (fun s=>s=⟨[(3,.one (.c (.pt 0 0))),(6,.one (.c (.pt 1 0))),(7,.one (.c (.pt 2 0))),(10,.one (.c (.pt 3 0))),(32,.one (.c (dB o4)))],[some (.box [dI x0.Rev,dI x0.Floor,dI x0.NextUid,dM (x0.Base.map eObject),dM (x0.Objects.map eObject),dM (x0.History.map eChange)]),some (.box [dI 0,dI 0,dI 0,dN,dN,dN]),some (.box [dS ((⟨#[]⟩:ByteArray)),dS ((⟨#[]⟩:ByteArray)),dS ((⟨#[]⟩:ByteArray)),dI 0,dI 0,dI 0,dI 0,dB false,dI 0,dN,dN,dN,dN,dI 0,dI 0,dS ((⟨#[]⟩:ByteArray)),dN,dN,dI 0,dI 0,dS ((⟨#[]⟩:ByteArray)),dN,dN]),some (.box [dS y3.Meta.Kind,dS y3.Meta.Namespace,dS y3.Meta.Name,dI y3.Meta.Uid,dI y3.Meta.Version,dI y3.Meta.Generation,dI y3.Meta.Created,dB y3.Meta.Deleting,dI y3.Meta.DeleteAt,dM (y3.Meta.Labels.map eLabel),dM (y3.Meta.Owners.map eOwner),dM (y3.Meta.Finalizers.map eS),dM (y3.Meta.Managers.map eManager),dI y3.Spec.Kind,dI y3.Spec.N,dS y3.Spec.S,dM (y3.Spec.List_.map eTValue),dM (y3.Spec.Fields.map eTField),dI y3.Status.Kind,dI y3.Status.N,dS y3.Status.S,dM (y3.Status.List_.map eTValue),dM (y3.Status.Fields.map eTField)])]⟩) ?_ ?_
 ·have h:=ho
  clear ho
  refine ww ?_
  refine guardSh h (fun g5 h=>?_) (fun g5 h=>?_)
  ·refine ww ?_
   cases h
   exact eM [some 0,some 1,some 2,some 3] rfl
  refine ww ?_
  cases h
  exact eM [some 0,some 1,some 2,some 3] rfl
 rintro _ rfl
 clear ho
 refine ww ?_
 refine condBh h (fun c6 h=>?_) (fun c6 h=>?_)
 ·refine ww ?_
  cases h
  exact eF []
 refine ww ?_
 refine condSh h (fun c7 h=>?_) (fun c7 h=>?_)
 ·refine ww ?_
  cases h
  exact eF []
 refine ww ?_
 obtain⟨t8,ht8,h⟩:=bi h
 refine cN [] (F96_ok ht8) trivial (ww ?_)
 cases h
 exact eF []
def F23(x0:TStore)(x1:TOp):Option (TStore×Object×Int):=(F58 x0 x1).bind fun t1=>(if x1.Kind=1 then(F59 x0 ((⟨(⟨x1.O.Meta.Kind,x1.O.Meta.Namespace,x1.O.Meta.Name,x1.O.Meta.Uid,t1.1,x1.O.Meta.Generation,x1.O.Meta.Created,x1.O.Meta.Deleting,x1.O.Meta.DeleteAt,x1.O.Meta.Labels,x1.O.Meta.Owners,x1.O.Meta.Finalizers,x1.O.Meta.Managers⟩:Meta),x1.O.Spec,x1.O.Status⟩:Object)) x1.Now).bind fun t3=>some (((⟨(t3.1).Rev,(t3.1).Floor,(t3.1).NextUid,(t3.1).Base,(t3.1).Objects,(t3.1).History⟩:TStore),(⟨(⟨(t3.2.1).Meta.Kind,(t3.2.1).Meta.Namespace,(t3.2.1).Meta.Name,(t3.2.1).Meta.Uid,(t3.2.1).Meta.Version,(t3.2.1).Meta.Generation,(t3.2.1).Meta.Created,(t3.2.1).Meta.Deleting,(t3.2.1).Meta.DeleteAt,(t3.2.1).Meta.Labels,(t3.2.1).Meta.Owners,(t3.2.1).Meta.Finalizers,(t3.2.1).Meta.Managers⟩:Meta),(⟨(t3.2.1).Spec.Kind,(t3.2.1).Spec.N,(t3.2.1).Spec.S,(t3.2.1).Spec.List_,(t3.2.1).Spec.Fields⟩:TValue),(⟨(t3.2.1).Status.Kind,(t3.2.1).Status.N,(t3.2.1).Status.S,(t3.2.1).Status.List_,(t3.2.1).Status.Fields⟩:TValue)⟩:Object),t3.2.2))else(if x1.Kind=2 then(F60 x0 ((⟨(⟨x1.O.Meta.Kind,x1.O.Meta.Namespace,x1.O.Meta.Name,x1.O.Meta.Uid,t1.1,x1.O.Meta.Generation,x1.O.Meta.Created,x1.O.Meta.Deleting,x1.O.Meta.DeleteAt,x1.O.Meta.Labels,x1.O.Meta.Owners,x1.O.Meta.Finalizers,x1.O.Meta.Managers⟩:Meta),x1.O.Spec,x1.O.Status⟩:Object))).bind fun t5=>some (((⟨(t5.1).Rev,(t5.1).Floor,(t5.1).NextUid,(t5.1).Base,(t5.1).Objects,(t5.1).History⟩:TStore),(⟨(⟨(t5.2.1).Meta.Kind,(t5.2.1).Meta.Namespace,(t5.2.1).Meta.Name,(t5.2.1).Meta.Uid,(t5.2.1).Meta.Version,(t5.2.1).Meta.Generation,(t5.2.1).Meta.Created,(t5.2.1).Meta.Deleting,(t5.2.1).Meta.DeleteAt,(t5.2.1).Meta.Labels,(t5.2.1).Meta.Owners,(t5.2.1).Meta.Finalizers,(t5.2.1).Meta.Managers⟩:Meta),(⟨(t5.2.1).Spec.Kind,(t5.2.1).Spec.N,(t5.2.1).Spec.S,(t5.2.1).Spec.List_,(t5.2.1).Spec.Fields⟩:TValue),(⟨(t5.2.1).Status.Kind,(t5.2.1).Status.N,(t5.2.1).Status.S,(t5.2.1).Status.List_,(t5.2.1).Status.Fields⟩:TValue)⟩:Object),t5.2.2))else(if x1.Kind=3 then(F61 x0 x1.Key t1.2).bind fun t7=>some (((⟨(t7.1).Rev,(t7.1).Floor,(t7.1).NextUid,(t7.1).Base,(t7.1).Objects,(t7.1).History⟩:TStore),(⟨(⟨(t7.2.1).Meta.Kind,(t7.2.1).Meta.Namespace,(t7.2.1).Meta.Name,(t7.2.1).Meta.Uid,(t7.2.1).Meta.Version,(t7.2.1).Meta.Generation,(t7.2.1).Meta.Created,(t7.2.1).Meta.Deleting,(t7.2.1).Meta.DeleteAt,(t7.2.1).Meta.Labels,(t7.2.1).Meta.Owners,(t7.2.1).Meta.Finalizers,(t7.2.1).Meta.Managers⟩:Meta),(⟨(t7.2.1).Spec.Kind,(t7.2.1).Spec.N,(t7.2.1).Spec.S,(t7.2.1).Spec.List_,(t7.2.1).Spec.Fields⟩:TValue),(⟨(t7.2.1).Status.Kind,(t7.2.1).Status.N,(t7.2.1).Status.S,(t7.2.1).Status.List_,(t7.2.1).Status.Fields⟩:TValue)⟩:Object),t7.2.2))else(F62 x0 x1.Rev).bind fun t8=>some (((⟨x0.Rev,t8.1,x0.NextUid,t8.2.1,x0.Objects,t8.2.2.1⟩:TStore),(⟨(⟨(⟨#[]⟩:ByteArray),(⟨#[]⟩:ByteArray),(⟨#[]⟩:ByteArray),0,0,0,0,false,0,[],[],[],[]⟩:Meta),(⟨0,0,(⟨#[]⟩:ByteArray),[],[]⟩:TValue),(⟨0,0,(⟨#[]⟩:ByteArray),[],[]⟩:TValue)⟩:Object),t8.2.2.2)))))
def a23:AFn:=⟨57,[(.cell 4 (some 6)),(.cell 5 (some 23)),(.tmp 6)],
 (.seq (.reg [sq 2 (.box (.t 0)),
sq 3 (.box (.t 1)),
sq 4 (.zbox [dI 0,dI 0,dI 0,dN,dN,dN]),
sq 5 (.zbox [dS ⟨#[]⟩,dS ⟨#[]⟩,dS ⟨#[]⟩,dI 0,dI 0,dI 0,dI 0,dB false,dI 0,dN,dN,dN,dN,dI 0,dI 0,dS ⟨#[]⟩,dN,dN,dI 0,dI 0,dS ⟨#[]⟩,dN,dN]),
sq 6 (.mv (kI 0))])
 (.seq (.reg [sq 12 (.load (some 6) (.t 2)),
sq 13 (.load (some 28) (.t 3)),
sq 14 (.call 58 [(.t 12),(.t 13)]),
sq 11 (.mv (.t 14)),
sq 15 (.ext (.t 11) 0),
sq 16 (.ext (.t 11) 1),
sq 7 (.zbox [dS ⟨#[]⟩,dS ⟨#[]⟩,dS ⟨#[]⟩,dI 0,dI 0,dI 0,dI 0,dB false,dI 0,dN,dN,dN,dN,dI 0,dI 0,dS ⟨#[]⟩,dN,dN,dI 0,dI 0,dS ⟨#[]⟩,dN,dN]),
su (.store 23 (.t 7) (.t 15)),
sq 8 (.mv (.t 16))])
 (.seq (.seq (.reg [sq 17 (.fieldA 0 (.t 3)),
sq 18 (.load none (.t 17))])
 (.block 0 (.seq (.reg [sq 20 (.bin .eql (.t 18) (kI 1)),
sq 19 (.mv (.t 20))])
 (.cond (.t 19)
 (.seq (.reg [sq 21 (.load (some 6) (.t 2)),
sq 22 (.load (some 23) (.t 7)),
sq 23 (.fieldA 26 (.t 3)),
sq 24 (.load none (.t 23)),
sq 25 (.call 59 [(.t 21),(.t 22),(.t 24)]),
sq 26 (.ext (.t 25) 0),
sq 27 (.ext (.t 25) 1),
sq 28 (.ext (.t 25) 2),
su (.store 6 (.t 4) (.t 26)),
su (.store 23 (.t 5) (.t 27)),
sq 6 (.mv (.t 28))])
 .ret)
 (.seq (.reg [sq 30 (.bin .eql (.t 18) (kI 2)),
sq 29 (.mv (.t 30))])
 (.cond (.t 29)
 (.seq (.reg [sq 31 (.load (some 6) (.t 2)),
sq 32 (.load (some 23) (.t 7)),
sq 33 (.call 60 [(.t 31),(.t 32)]),
sq 34 (.ext (.t 33) 0),
sq 35 (.ext (.t 33) 1),
sq 36 (.ext (.t 33) 2),
su (.store 6 (.t 4) (.t 34)),
su (.store 23 (.t 5) (.t 35)),
sq 6 (.mv (.t 36))])
 .ret)
 (.seq (.reg [sq 38 (.bin .eql (.t 18) (kI 3)),
sq 37 (.mv (.t 38))])
 (.cond (.t 37)
 (.seq (.reg [sq 39 (.load (some 6) (.t 2)),
sq 40 (.fieldA 24 (.t 3)),
sq 41 (.load none (.t 40)),
sq 42 (.mv (.t 8)),
sq 43 (.call 61 [(.t 39),(.t 41),(.t 42)]),
sq 44 (.ext (.t 43) 0),
sq 45 (.ext (.t 43) 1),
sq 46 (.ext (.t 43) 2),
su (.store 6 (.t 4) (.t 44)),
su (.store 23 (.t 5) (.t 45)),
sq 6 (.mv (.t 46))])
 .ret)
 .skip))))))))
 (.seq (.reg [sq 48 (.load (some 6) (.t 2)),
sq 49 (.fieldA 27 (.t 3)),
sq 50 (.load none (.t 49)),
sq 51 (.call 62 [(.t 48),(.t 50)]),
sq 47 (.mv (.t 51)),
sq 52 (.ext (.t 47) 0),
sq 53 (.ext (.t 47) 1),
sq 9 (.zbox [dI 0,dI 0,dI 0,dN,dN,dN]),
su (.store 6 (.t 9) (.t 52)),
sq 10 (.mv (.t 53))])
 (.seq (.reg [sq 54 (.load (some 6) (.t 9)),
sq 55 (.build [dS ⟨#[]⟩,dS ⟨#[]⟩,dS ⟨#[]⟩,dI 0,dI 0,dI 0,dI 0,dB false,dI 0,dN,dN,dN,dN,dI 0,dI 0,dS ⟨#[]⟩,dN,dN,dI 0,dI 0,dS ⟨#[]⟩,dN,dN] []),
sq 56 (.mv (.t 10)),
su (.store 6 (.t 4) (.t 54)),
su (.store 23 (.t 5) (.t 55)),
sq 6 (.mv (.t 56))])
 .ret)))))⟩
theorem F23_ok{x0 x1 r}(h:F23 x0 x1=some r):CallD Tryz.prog 23 [.agg [dI x0.Rev,dI x0.Floor,dI x0.NextUid,dM (x0.Base.map eObject),dM (x0.Objects.map eObject),dM (x0.History.map eChange)],.agg [dI x1.Kind,dS x1.O.Meta.Kind,dS x1.O.Meta.Namespace,dS x1.O.Meta.Name,dI x1.O.Meta.Uid,dI x1.O.Meta.Version,dI x1.O.Meta.Generation,dI x1.O.Meta.Created,dB x1.O.Meta.Deleting,dI x1.O.Meta.DeleteAt,dM (x1.O.Meta.Labels.map eLabel),dM (x1.O.Meta.Owners.map eOwner),dM (x1.O.Meta.Finalizers.map eS),dM (x1.O.Meta.Managers.map eManager),dI x1.O.Spec.Kind,dI x1.O.Spec.N,dS x1.O.Spec.S,dM (x1.O.Spec.List_.map eTValue),dM (x1.O.Spec.Fields.map eTField),dI x1.O.Status.Kind,dI x1.O.Status.N,dS x1.O.Status.S,dM (x1.O.Status.List_.map eTValue),dM (x1.O.Status.Fields.map eTField),dS x1.Key,dI x1.Version,dI x1.Now,dI x1.Rev]] [] (tupV [.agg [dI ((r.1).Rev),dI ((r.1).Floor),dI ((r.1).NextUid),dM (((r.1).Base).map eObject),dM (((r.1).Objects).map eObject),dM (((r.1).History).map eChange)],.agg [dS ((r.2.1).Meta.Kind),dS ((r.2.1).Meta.Namespace),dS ((r.2.1).Meta.Name),dI ((r.2.1).Meta.Uid),dI ((r.2.1).Meta.Version),dI ((r.2.1).Meta.Generation),dI ((r.2.1).Meta.Created),dB ((r.2.1).Meta.Deleting),dI ((r.2.1).Meta.DeleteAt),dM (((r.2.1).Meta.Labels).map eLabel),dM (((r.2.1).Meta.Owners).map eOwner),dM (((r.2.1).Meta.Finalizers).map eS),dM (((r.2.1).Meta.Managers).map eManager),dI ((r.2.1).Spec.Kind),dI ((r.2.1).Spec.N),dS ((r.2.1).Spec.S),dM (((r.2.1).Spec.List_).map eTValue),dM (((r.2.1).Spec.Fields).map eTField),dI ((r.2.1).Status.Kind),dI ((r.2.1).Status.N),dS ((r.2.1).Status.S),dM (((r.2.1).Status.List_).map eTValue),dM (((r.2.1).Status.Fields).map eTField)],.c (dI r.2.2)]) []:=by
 rw[F23]at h
 refine zc a23 (by kernel_rfl) rfl (ww ?_)
 obtain⟨t1,ht1,h⟩:=bi h
 refine cN [] (F58_ok ht1) trivial (ww ?_)
 refine condSh h (fun c2 h=>?_) (fun c2 h=>?_)
 ·refine ww ?_
  obtain⟨t3,ht3,h⟩:=bi h
  refine cN [] (F59_ok ht3) trivial (ww ?_)
  cases h
  exact eF []
 refine ww ?_
 refine condSh h (fun c4 h=>?_) (fun c4 h=>?_)
 ·refine ww ?_
  obtain⟨t5,ht5,h⟩:=bi h
  refine cN [] (F60_ok ht5) trivial (ww ?_)
  cases h
  exact eF []
 refine ww ?_
 refine condSh h (fun c6 h=>?_) (fun c6 h=>?_)
 ·refine ww ?_
  obtain⟨t7,ht7,h⟩:=bi h
  refine cN [] (F61_ok ht7) trivial (ww ?_)
  cases h
  exact eF []
 refine ww ?_
 obtain⟨t8,ht8,h⟩:=bi h
 refine cN [] (F62_ok ht8) trivial (ww ?_)
 cases h
 exact eF []
end Go.Proofs.YtbopaemngpbdgaaGreat
