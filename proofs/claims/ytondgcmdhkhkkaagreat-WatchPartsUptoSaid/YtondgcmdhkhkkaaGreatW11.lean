/- Each Go function as a function over typed data, and its walk. -/
import Derived.Test.YtondgcmdhkhkkaaGreatW0
import Derived.Test.YtondgcmdhkhkkaaGreatW4
import Derived.Test.YtondgcmdhkhkkaaGreatW7
namespace Go.Proofs.YtondgcmdhkhkkaaGreat
open Go Go.Fw Go.Shelf
set_option maxRecDepth 100000
set_option maxHeartbeats 4000000
set_option linter.unusedSimpArgs false
set_option linter.unusedVariables false
def F16(x0:Filter)(x1:Object):Option (Bool):=(((if x0.Kind=(⟨#[]⟩:ByteArray)then(if x0.Namespace=(⟨#[]⟩:ByteArray)then(F42 x0.Selector x1.Meta.Labels).bind fun t4=>some t4 else(if x0.Namespace=x1.Meta.Namespace then(F42 x0.Selector x1.Meta.Labels).bind fun t6=>some t6 else some false))else(if x0.Kind=x1.Meta.Kind then(if x0.Namespace=(⟨#[]⟩:ByteArray)then(F42 x0.Selector x1.Meta.Labels).bind fun t9=>some t9 else(if x0.Namespace=x1.Meta.Namespace then(F42 x0.Selector x1.Meta.Labels).bind fun t11=>some t11 else some false))else some false))).bind fun o1=>some o1)
def a16:AFn:=⟨37,[(.tmp 4)],
 (.seq (.reg [sq 2 (.box (.t 0)),
sq 3 (.box (.t 1)),
sq 4 (.mv (kB false))])
 (.seq (.sem (.reg [sq 5 (.fieldA 0 (.t 2)),
sq 6 (.load none (.t 5)),
sq 7 (.bin .eql (.t 6) (kS ⟨#[]⟩)),
sq 8 (.mv (.t 7)),
zg 9 8 false (.fieldA 0 (.t 2)),
zg 10 8 false (.load none (.t 9)),
zg 11 8 false (.fieldA 0 (.t 3)),
zg 12 8 false (.fieldA 0 (.t 11)),
zg 13 8 false (.load none (.t 12)),
zg 14 8 false (.bin .eql (.t 10) (.t 13)),
sq 15 (.pick (.t 8) (kB true) (.t 14)),
sq 16 (.mv (.t 15)),
zg 17 16 true (.fieldA 1 (.t 2)),
zg 18 16 true (.load none (.t 17)),
zg 19 16 true (.bin .eql (.t 18) (kS ⟨#[]⟩)),
zg 20 16 true (.mv (.t 19)),
zg 21 20 false (.fieldA 1 (.t 2)),
zg 22 20 false (.load none (.t 21)),
zg 23 20 false (.fieldA 0 (.t 3)),
zg 24 20 false (.fieldA 1 (.t 23)),
zg 25 20 false (.load none (.t 24)),
zg 26 20 false (.bin .eql (.t 22) (.t 25)),
zg 27 16 true (.pick (.t 20) (kB true) (.t 26)),
sq 28 (.pick (.t 16) (.t 27) (kB false)),
sq 29 (.mv (.t 28)),
zg 30 29 true (.fieldA 2 (.t 2)),
zg 31 29 true (.load none (.t 30)),
zg 32 29 true (.fieldA 0 (.t 3)),
zg 33 29 true (.fieldA 9 (.t 32)),
zg 34 29 true (.load none (.t 33)),
zg 35 29 true (.call 42 [(.t 31),(.t 34)]),
sq 36 (.pick (.t 29) (.t 35) (kB false)),
sq 4 (.mv (.t 36))]))
 .ret))⟩
theorem a16_ok:afn Tryz.prog 16=some a16.er:=by kernel_rfl
theorem F16_ok{x0 x1 r}(h:F16 x0 x1=some r):CallD Tryz.prog 16 [.agg [dS x0.Kind,dS x0.Namespace,dM (x0.Selector.map eRequirement)],.agg [dS x1.Meta.Kind,dS x1.Meta.Namespace,dS x1.Meta.Name,dI x1.Meta.Uid,dI x1.Meta.Version,dI x1.Meta.Generation,dI x1.Meta.Created,dB x1.Meta.Deleting,dI x1.Meta.DeleteAt,dM (x1.Meta.Labels.map eLabel),dM (x1.Meta.Owners.map eOwner),dM (x1.Meta.Finalizers.map eS),dM (x1.Meta.Managers.map eManager),dI x1.Spec.Kind,dI x1.Spec.N,dS x1.Spec.S,dM (x1.Spec.List_.map eTValue),dM (x1.Spec.Fields.map eTField),dI x1.Status.Kind,dI x1.Status.N,dS x1.Status.S,dM (x1.Status.List_.map eTValue),dM (x1.Status.Fields.map eTField)]] [] (tupV [.c (dB r)]) []:=by
 refine callS a16_ok (by simp[a16]) ?_
 rw[F16]at h
 simp only[a16,VW.down,Nat.reduceEqDiff,reduceCtorEq,Nat.reduceAdd,Nat.reduceLeDiff,Nat.reduceLT,Nat.reduceBEq,Nat.reduceSub,EE.down]
 obtain⟨o1,ho,h⟩:=bi h
 refine cutS (fun s=>s=⟨[(4,.one (.c (dB o1)))],[]⟩) ?_ ?_
 ·have h:=ho
  clear ho
  refine ww ?_
  refine guardSh h (fun g2 h=>?_) (fun g2 h=>?_)
  ·refine ww ?_
   refine guardSh h (fun g3 h=>?_) (fun g3 h=>?_)
   ·refine ww ?_
    obtain⟨t4,ht4,h⟩:=bi h
    refine cN [] (F42_ok ht4) trivial (ww ?_)
    cases h
    exact eM [] rfl
   refine ww ?_
   refine guardSh h (fun g5 h=>?_) (fun g5 h=>?_)
   ·refine ww ?_
    obtain⟨t6,ht6,h⟩:=bi h
    refine cN [] (F42_ok ht6) trivial (ww ?_)
    cases h
    exact eM [] rfl
   refine ww ?_
   cases h
   exact eM [] rfl
  refine ww ?_
  refine guardSh h (fun g7 h=>?_) (fun g7 h=>?_)
  ·refine ww ?_
   refine guardSh h (fun g8 h=>?_) (fun g8 h=>?_)
   ·refine ww ?_
    obtain⟨t9,ht9,h⟩:=bi h
    refine cN [] (F42_ok ht9) trivial (ww ?_)
    cases h
    exact eM [] rfl
   refine ww ?_
   refine guardSh h (fun g10 h=>?_) (fun g10 h=>?_)
   ·refine ww ?_
    obtain⟨t11,ht11,h⟩:=bi h
    refine cN [] (F42_ok ht11) trivial (ww ?_)
    cases h
    exact eM [] rfl
   refine ww ?_
   cases h
   exact eM [] rfl
  refine ww ?_
  cases h
  exact eM [] rfl
 rintro _ rfl
 clear ho
 refine ww ?_
 cases h
 exact eF []
def F37(x0:Filter)(x1:Change)(x2:Bool):Option (Int):=(((if x1.Kind=1 then(F16 x0 x1.Object).bind fun t3=>some t3 else some false)).bind fun o1=>(((if o1=true then some x2 else some false)).bind fun o4=>(if o4=true then some 2 else(if o1=true then some 1 else(if x2=true then some 3 else some 0)))))
def a37:AFn:=⟨26,[(.tmp 6)],
 (.seq (.reg [sq 3 (.box (.t 0)),
sq 4 (.box (.t 1)),
sq 6 (.mv (kI 0))])
 (.seq (.sem (.reg [sq 8 (.fieldA 1 (.t 4)),
sq 9 (.load none (.t 8)),
sq 10 (.bin .eql (.t 9) (kI 1)),
sq 11 (.mv (.t 10)),
zg 12 11 true (.load (some 3) (.t 3)),
zg 13 11 true (.fieldA 2 (.t 4)),
zg 14 11 true (.load (some 23) (.t 13)),
zg 15 11 true (.call 16 [(.t 12),(.t 14)]),
sq 16 (.pick (.t 11) (.t 15) (kB false)),
sq 7 (.mv (.t 16))]))
 (.seq (.block 0 (.seq (.sem (.reg [sq 18 (.mv (.t 7)),
sq 19 (.mv (.t 18)),
zg 20 19 true (.mv (.t 2)),
sq 21 (.pick (.t 19) (.t 20) (kB false)),
sq 17 (.mv (.t 21))]))
 (.cond (.t 17)
 (.seq (.reg [sq 6 (.mv (kI 2))])
 .ret)
 (.seq (.reg [sq 23 (.mv (.t 7)),
sq 22 (.mv (.t 23))])
 (.cond (.t 22)
 (.seq (.reg [sq 6 (.mv (kI 1))])
 .ret)
 (.seq (.reg [sq 25 (.mv (.t 2)),
sq 24 (.mv (.t 25))])
 (.cond (.t 24)
 (.seq (.reg [sq 6 (.mv (kI 3))])
 .ret)
 .skip)))))))
 (.seq (.reg [sq 6 (.mv (kI 0))])
 .ret))))⟩
theorem a37_ok:afn Tryz.prog 37=some a37.er:=by kernel_rfl
theorem F37_ok{x0 x1 x2 r}(h:F37 x0 x1 x2=some r):CallD Tryz.prog 37 [.agg [dS x0.Kind,dS x0.Namespace,dM (x0.Selector.map eRequirement)],.agg [dI x1.Rev,dI x1.Kind,dS x1.Object.Meta.Kind,dS x1.Object.Meta.Namespace,dS x1.Object.Meta.Name,dI x1.Object.Meta.Uid,dI x1.Object.Meta.Version,dI x1.Object.Meta.Generation,dI x1.Object.Meta.Created,dB x1.Object.Meta.Deleting,dI x1.Object.Meta.DeleteAt,dM (x1.Object.Meta.Labels.map eLabel),dM (x1.Object.Meta.Owners.map eOwner),dM (x1.Object.Meta.Finalizers.map eS),dM (x1.Object.Meta.Managers.map eManager),dI x1.Object.Spec.Kind,dI x1.Object.Spec.N,dS x1.Object.Spec.S,dM (x1.Object.Spec.List_.map eTValue),dM (x1.Object.Spec.Fields.map eTField),dI x1.Object.Status.Kind,dI x1.Object.Status.N,dS x1.Object.Status.S,dM (x1.Object.Status.List_.map eTValue),dM (x1.Object.Status.Fields.map eTField)],.c (dB x2)] [] (tupV [.c (dI r)]) []:=by
 refine callS a37_ok (by simp[a37]) ?_
 rw[F37]at h
 simp only[a37,VW.down,Nat.reduceEqDiff,reduceCtorEq,Nat.reduceAdd,Nat.reduceLeDiff,Nat.reduceLT,Nat.reduceBEq,Nat.reduceSub,EE.down]
 obtain⟨o1,ho,h⟩:=bi h
 refine cutS (fun s=>s=⟨[(2,.one (.c (dB x2))),(7,.one (.c (dB o1)))],[]⟩) ?_ ?_
 ·have h:=ho
  clear ho
  refine ww ?_
  refine guardSh h (fun g2 h=>?_) (fun g2 h=>?_)
  ·refine ww ?_
   obtain⟨t3,ht3,h⟩:=bi h
   refine cN [] (F16_ok ht3) trivial (ww ?_)
   cases h
   exact eM [] rfl
  refine ww ?_
  cases h
  exact eM [] rfl
 rintro _ rfl
 clear ho
 refine ww ?_
 obtain⟨o4,ho,h⟩:=bi h
 refine cutS (fun s=>s=⟨[(2,.one (.c (dB x2))),(7,.one (.c (dB o1))),(17,.one (.c (dB o4)))],[]⟩) ?_ ?_
 ·have h:=ho
  clear ho
  refine ww ?_
  refine guardSBh h (fun g5 h=>?_) (fun g5 h=>?_)
  ·refine ww ?_
   cases h
   exact eM [] rfl
  refine ww ?_
  cases h
  exact eM [] rfl
 rintro _ rfl
 clear ho
 refine ww ?_
 refine condBh h (fun c6 h=>?_) (fun c6 h=>?_)
 ·refine ww ?_
  cases h
  exact eF []
 refine ww ?_
 refine condBh h (fun c7 h=>?_) (fun c7 h=>?_)
 ·refine ww ?_
  cases h
  exact eF []
 refine ww ?_
 refine condBh h (fun c8 h=>?_) (fun c8 h=>?_)
 ·refine ww ?_
  cases h
  exact eF []
 refine ww ?_
 cases h
 exact eF []
def F95(x0:TStore)(x1:ByteArray):Option (Object×Bool):=(F23 x0.Objects x1).bind fun t1=>(if t1<0 then some (((⟨(⟨(⟨#[]⟩:ByteArray),(⟨#[]⟩:ByteArray),(⟨#[]⟩:ByteArray),0,0,0,0,false,0,[],[],[],[]⟩:Meta),(⟨0,0,(⟨#[]⟩:ByteArray),[],[]⟩:TValue),(⟨0,0,(⟨#[]⟩:ByteArray),[],[]⟩:TValue)⟩:Object),false))else(rdI x0.Objects t1).bind fun y3=>some ((y3,true)))
def a95:AFn:=⟨19,[(.cell 4 (some 23)),(.tmp 5)],
 (.seq (.reg [sq 2 (.box (.t 0)),
sq 4 (.zbox [dS ⟨#[]⟩,dS ⟨#[]⟩,dS ⟨#[]⟩,dI 0,dI 0,dI 0,dI 0,dB false,dI 0,dN,dN,dN,dN,dI 0,dI 0,dS ⟨#[]⟩,dN,dN,dI 0,dI 0,dS ⟨#[]⟩,dN,dN]),
sq 5 (.mv (kB false))])
 (.seq (.reg [sq 7 (.fieldA 4 (.t 2)),
sq 8 (.load none (.t 7)),
sq 9 (.mv (.t 1)),
sq 10 (.call 23 [(.t 8),(.t 9)]),
sq 6 (.mv (.t 10))])
 (.seq (.seq (.reg [sq 11 (.mv (.t 6)),
sq 12 (.bin .lss (.t 11) (kI 0))])
 (.cond (.t 12)
 (.seq (.reg [sq 13 (.build [dS ⟨#[]⟩,dS ⟨#[]⟩,dS ⟨#[]⟩,dI 0,dI 0,dI 0,dI 0,dB false,dI 0,dN,dN,dN,dN,dI 0,dI 0,dS ⟨#[]⟩,dN,dN,dI 0,dI 0,dS ⟨#[]⟩,dN,dN] []),
su (.store 23 (.t 4) (.t 13)),
sq 5 (.mv (kB false))])
 .ret)
 .skip))
 (.seq (.reg [sq 14 (.fieldA 4 (.t 2)),
sq 15 (.load none (.t 14)),
sq 16 (.mv (.t 6)),
sq 17 (.indexA 23 (.t 15) (.t 16)),
sq 18 (.load (some 23) (.t 17)),
su (.store 23 (.t 4) (.t 18)),
sq 5 (.mv (kB true))])
 .ret))))⟩
theorem a95_ok:afn Tryz.prog 95=some a95.er:=by kernel_rfl
theorem F95_ok{x0 x1 r}(h:F95 x0 x1=some r):CallD Tryz.prog 95 [.agg [dI x0.Rev,dI x0.Floor,dI x0.NextUid,dM (x0.Base.map eObject),dM (x0.Objects.map eObject),dM (x0.History.map eChange)],.c (dS x1)] [] (tupV [.agg [dS ((r.1).Meta.Kind),dS ((r.1).Meta.Namespace),dS ((r.1).Meta.Name),dI ((r.1).Meta.Uid),dI ((r.1).Meta.Version),dI ((r.1).Meta.Generation),dI ((r.1).Meta.Created),dB ((r.1).Meta.Deleting),dI ((r.1).Meta.DeleteAt),dM (((r.1).Meta.Labels).map eLabel),dM (((r.1).Meta.Owners).map eOwner),dM (((r.1).Meta.Finalizers).map eS),dM (((r.1).Meta.Managers).map eManager),dI ((r.1).Spec.Kind),dI ((r.1).Spec.N),dS ((r.1).Spec.S),dM (((r.1).Spec.List_).map eTValue),dM (((r.1).Spec.Fields).map eTField),dI ((r.1).Status.Kind),dI ((r.1).Status.N),dS ((r.1).Status.S),dM (((r.1).Status.List_).map eTValue),dM (((r.1).Status.Fields).map eTField)],.c (dB r.2)]) []:=by
 refine callS a95_ok (by simp[a95]) ?_
 rw[F95]at h
 simp only[a95,VW.down,Nat.reduceEqDiff,reduceCtorEq,Nat.reduceAdd,Nat.reduceLeDiff,Nat.reduceLT,Nat.reduceBEq,Nat.reduceSub,EE.down]
 obtain⟨t1,ht1,h⟩:=bi h
 refine cN [] (F23_ok ht1) trivial (ww ?_)
 refine condSh h (fun c2 h=>?_) (fun c2 h=>?_)
 ·refine ww ?_
  cases h
  exact eF []
 refine ww ?_
 obtain⟨y3,hy3,h⟩:=bi h
 refine t_idxF (enc:=eObject) (xs:=x0.Objects) rfl rfl hy3 rfl (ww ?_)
 cases h
 exact eF []
def F67(x0:TStore)(x1:TOp):Option (Int×Int):=(((if x1.Kind=2 then(F75 x1.O.Meta).bind fun t3=>some t3 else some x1.Key)).bind fun o1=>(((if x1.Version<0 then(F95 x0 o1).bind fun t6=>some ((t6.1).Meta.Version)else some x1.Version)).bind fun o4=>(if x1.Kind=2 then some ((o4,o4))else some ((x1.O.Meta.Version,o4)))))
def a67:AFn:=⟨43,[(.cell 4 (some 23)),(.tmp 5)],
 (.seq (.reg [sq 2 (.box (.t 0)),
sq 3 (.box (.t 1)),
sq 4 (.zbox [dS ⟨#[]⟩,dS ⟨#[]⟩,dS ⟨#[]⟩,dI 0,dI 0,dI 0,dI 0,dB false,dI 0,dN,dN,dN,dN,dI 0,dI 0,dS ⟨#[]⟩,dN,dN,dI 0,dI 0,dS ⟨#[]⟩,dN,dN]),
sq 5 (.mv (kI 0))])
 (.seq (.reg [sq 11 (.fieldA 24 (.t 3)),
sq 12 (.load none (.t 11)),
sq 6 (.mv (.t 12))])
 (.seq (.sem (.seq (.reg [sq 13 (.fieldA 0 (.t 3)),
sq 14 (.load none (.t 13)),
sq 15 (.bin .eql (.t 14) (kI 2))])
 (.cond (.t 15)
 (.reg [sq 16 (.fieldA 1 (.t 3)),
sq 17 (.fieldA 0 (.t 16)),
sq 18 (.load (some 13) (.t 17)),
sq 19 (.call 75 [(.t 18)]),
sq 6 (.mv (.t 19))])
 .skip)))
 (.seq (.reg [sq 20 (.fieldA 25 (.t 3)),
sq 21 (.load none (.t 20)),
sq 7 (.mv (.t 21))])
 (.seq (.sem (.seq (.reg [sq 22 (.mv (.t 7)),
sq 23 (.bin .lss (.t 22) (kI 0))])
 (.cond (.t 23)
 (.seq (.reg [sq 25 (.load (some 6) (.t 2)),
sq 26 (.mv (.t 6)),
sq 27 (.call 95 [(.t 25),(.t 26)]),
sq 24 (.mv (.t 27)),
sq 28 (.ext (.t 24) 0),
sq 29 (.ext (.t 24) 1),
sq 8 (.zbox [dS ⟨#[]⟩,dS ⟨#[]⟩,dS ⟨#[]⟩,dI 0,dI 0,dI 0,dI 0,dB false,dI 0,dN,dN,dN,dN,dI 0,dI 0,dS ⟨#[]⟩,dN,dN,dI 0,dI 0,dS ⟨#[]⟩,dN,dN]),
su (.store 23 (.t 8) (.t 28)),
sq 9 (.mv (.t 29))])
 (.reg [sq 30 (.fieldA 0 (.t 8)),
sq 31 (.fieldA 4 (.t 30)),
sq 32 (.load none (.t 31)),
sq 7 (.mv (.t 32))]))
 .skip)))
 (.seq (.reg [sq 33 (.fieldA 1 (.t 3)),
sq 34 (.load (some 23) (.t 33)),
sq 10 (.zbox [dS ⟨#[]⟩,dS ⟨#[]⟩,dS ⟨#[]⟩,dI 0,dI 0,dI 0,dI 0,dB false,dI 0,dN,dN,dN,dN,dI 0,dI 0,dS ⟨#[]⟩,dN,dN,dI 0,dI 0,dS ⟨#[]⟩,dN,dN]),
su (.store 23 (.t 10) (.t 34))])
 (.seq (.seq (.reg [sq 35 (.fieldA 0 (.t 3)),
sq 36 (.load none (.t 35)),
sq 37 (.bin .eql (.t 36) (kI 2))])
 (.cond (.t 37)
 (.reg [sq 38 (.mv (.t 7)),
sq 39 (.fieldA 0 (.t 10)),
sq 40 (.fieldA 4 (.t 39)),
⟨none,none,.store 1 (.t 40) (.t 38),[],(.lone [10,39])⟩])
 .skip))
 (.seq (.reg [sq 41 (.load (some 23) (.t 10)),
sq 42 (.mv (.t 7)),
su (.store 23 (.t 4) (.t 41)),
sq 5 (.mv (.t 42))])
 .ret))))))))⟩
theorem a67_ok:afn Tryz.prog 67=some a67.er:=by kernel_rfl
theorem F67_ok{x0 x1 r}(h:F67 x0 x1=some r):CallD Tryz.prog 67 [.agg [dI x0.Rev,dI x0.Floor,dI x0.NextUid,dM (x0.Base.map eObject),dM (x0.Objects.map eObject),dM (x0.History.map eChange)],.agg [dI x1.Kind,dS x1.O.Meta.Kind,dS x1.O.Meta.Namespace,dS x1.O.Meta.Name,dI x1.O.Meta.Uid,dI x1.O.Meta.Version,dI x1.O.Meta.Generation,dI x1.O.Meta.Created,dB x1.O.Meta.Deleting,dI x1.O.Meta.DeleteAt,dM (x1.O.Meta.Labels.map eLabel),dM (x1.O.Meta.Owners.map eOwner),dM (x1.O.Meta.Finalizers.map eS),dM (x1.O.Meta.Managers.map eManager),dI x1.O.Spec.Kind,dI x1.O.Spec.N,dS x1.O.Spec.S,dM (x1.O.Spec.List_.map eTValue),dM (x1.O.Spec.Fields.map eTField),dI x1.O.Status.Kind,dI x1.O.Status.N,dS x1.O.Status.S,dM (x1.O.Status.List_.map eTValue),dM (x1.O.Status.Fields.map eTField),dS x1.Key,dI x1.Version,dI x1.Now,dI x1.Rev]] [] (tupV [.agg [dS x1.O.Meta.Kind,dS x1.O.Meta.Namespace,dS x1.O.Meta.Name,dI x1.O.Meta.Uid,dI r.1,dI x1.O.Meta.Generation,dI x1.O.Meta.Created,dB x1.O.Meta.Deleting,dI x1.O.Meta.DeleteAt,dM (x1.O.Meta.Labels.map eLabel),dM (x1.O.Meta.Owners.map eOwner),dM (x1.O.Meta.Finalizers.map eS),dM (x1.O.Meta.Managers.map eManager),dI x1.O.Spec.Kind,dI x1.O.Spec.N,dS x1.O.Spec.S,dM (x1.O.Spec.List_.map eTValue),dM (x1.O.Spec.Fields.map eTField),dI x1.O.Status.Kind,dI x1.O.Status.N,dS x1.O.Status.S,dM (x1.O.Status.List_.map eTValue),dM (x1.O.Status.Fields.map eTField)],.c (dI r.2)]) []:=by
 refine callS a67_ok (by simp[a67]) ?_
 rw[F67]at h
 simp only[a67,VW.down,Nat.reduceEqDiff,reduceCtorEq,Nat.reduceAdd,Nat.reduceLeDiff,Nat.reduceLT,Nat.reduceBEq,Nat.reduceSub,EE.down]
 obtain⟨o1,ho,h⟩:=bi h
 refine cutS (fun s=>s=⟨[(2,.one (.c (.pt 0 0))),(3,.one (.c (.pt 1 0))),(4,.one (.c (.pt 2 0))),(6,.one (.c (dS o1)))],[some (.box [dI x0.Rev,dI x0.Floor,dI x0.NextUid,dM (x0.Base.map eObject),dM (x0.Objects.map eObject),dM (x0.History.map eChange)]),some (.box [dI x1.Kind,dS x1.O.Meta.Kind,dS x1.O.Meta.Namespace,dS x1.O.Meta.Name,dI x1.O.Meta.Uid,dI x1.O.Meta.Version,dI x1.O.Meta.Generation,dI x1.O.Meta.Created,dB x1.O.Meta.Deleting,dI x1.O.Meta.DeleteAt,dM (x1.O.Meta.Labels.map eLabel),dM (x1.O.Meta.Owners.map eOwner),dM (x1.O.Meta.Finalizers.map eS),dM (x1.O.Meta.Managers.map eManager),dI x1.O.Spec.Kind,dI x1.O.Spec.N,dS x1.O.Spec.S,dM (x1.O.Spec.List_.map eTValue),dM (x1.O.Spec.Fields.map eTField),dI x1.O.Status.Kind,dI x1.O.Status.N,dS x1.O.Status.S,dM (x1.O.Status.List_.map eTValue),dM (x1.O.Status.Fields.map eTField),dS x1.Key,dI x1.Version,dI x1.Now,dI x1.Rev]),some (.box [dS ((⟨#[]⟩:ByteArray)),dS ((⟨#[]⟩:ByteArray)),dS ((⟨#[]⟩:ByteArray)),dI 0,dI 0,dI 0,dI 0,dB false,dI 0,dN,dN,dN,dN,dI 0,dI 0,dS ((⟨#[]⟩:ByteArray)),dN,dN,dI 0,dI 0,dS ((⟨#[]⟩:ByteArray)),dN,dN])]⟩) ?_ ?_
 ·have h:=ho
  clear ho
  refine ww ?_
  refine condSh h (fun c2 h=>?_) (fun c2 h=>?_)
  ·refine ww ?_
   obtain⟨t3,ht3,h⟩:=bi h
   refine cN [] (F75_ok ht3) trivial (ww ?_)
   cases h
   exact eM [some 0,some 1,some 2] rfl
  refine ww ?_
  cases h
  exact eM [some 0,some 1,some 2] rfl
 rintro _ rfl
 clear ho
 refine ww ?_
 obtain⟨o4,ho,h⟩:=bi h
 refine cutS (fun s=>s=⟨[(3,.one (.c (.pt 0 0))),(4,.one (.c (.pt 1 0))),(7,.one (.c (dI o4)))],[some (.box [dI x1.Kind,dS x1.O.Meta.Kind,dS x1.O.Meta.Namespace,dS x1.O.Meta.Name,dI x1.O.Meta.Uid,dI x1.O.Meta.Version,dI x1.O.Meta.Generation,dI x1.O.Meta.Created,dB x1.O.Meta.Deleting,dI x1.O.Meta.DeleteAt,dM (x1.O.Meta.Labels.map eLabel),dM (x1.O.Meta.Owners.map eOwner),dM (x1.O.Meta.Finalizers.map eS),dM (x1.O.Meta.Managers.map eManager),dI x1.O.Spec.Kind,dI x1.O.Spec.N,dS x1.O.Spec.S,dM (x1.O.Spec.List_.map eTValue),dM (x1.O.Spec.Fields.map eTField),dI x1.O.Status.Kind,dI x1.O.Status.N,dS x1.O.Status.S,dM (x1.O.Status.List_.map eTValue),dM (x1.O.Status.Fields.map eTField),dS x1.Key,dI x1.Version,dI x1.Now,dI x1.Rev]),some (.box [dS ((⟨#[]⟩:ByteArray)),dS ((⟨#[]⟩:ByteArray)),dS ((⟨#[]⟩:ByteArray)),dI 0,dI 0,dI 0,dI 0,dB false,dI 0,dN,dN,dN,dN,dI 0,dI 0,dS ((⟨#[]⟩:ByteArray)),dN,dN,dI 0,dI 0,dS ((⟨#[]⟩:ByteArray)),dN,dN])]⟩) ?_ ?_
 ·have h:=ho
  clear ho
  refine ww ?_
  refine condSh h (fun c5 h=>?_) (fun c5 h=>?_)
  ·refine ww ?_
   obtain⟨t6,ht6,h⟩:=bi h
   refine cN [] (F95_ok ht6) trivial (ww ?_)
   cases h
   exact eM [some 1,some 2] rfl
  refine ww ?_
  cases h
  exact eM [some 1,some 2] rfl
 rintro _ rfl
 clear ho
 refine ww ?_
 refine condSh h (fun c7 h=>?_) (fun c7 h=>?_)
 ·refine ww ?_
  cases h
  exact eF []
 refine ww ?_
 cases h
 exact eF []
end Go.Proofs.YtondgcmdhkhkkaaGreat
