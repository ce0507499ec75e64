/- Each Go function as a function over typed data, and its walk. -/
import Derived.Test.YtfkkccgopmcnaaaW0
import Derived.Test.YtfkkccgopmcnaaaW6
namespace Go.Proofs.Ytfkkccgopmcnaaa
open Go Go.Fw Go.Shelf
set_option maxRecDepth 100000
set_option maxHeartbeats 4000000
set_option linter.unusedSimpArgs false
set_option linter.unusedVariables false
def F42_l1(x1:(List Label)):List Requirement→Nat→Option ((Bool) ⊕ (Unit))
 |[],o1_0=>some (Sum.inr (()))
 |xo1::xs,o1_0=>(F54 xo1 x1).bind fun t3=>(if(nb t3)=true then(some false).map Sum.inl else F42_l1 x1 xs (o1_0+1))
def F42(x0:(List Requirement))(x1:(List Label)):Option (Bool):=(((ck (0≤x0.length∧x0.length≤4294967290)).bind fun u5=>F42_l1 x1 x0 0:Option ((Bool) ⊕ (Unit))).bind fun o1=>match o1 with|Sum.inl f=>some f|Sum.inr po1=>some true)
def a42:AFn:=⟨18,[(.tmp 4)],
 (.seq (.reg [sq 4 (.mv (kB false))])
 (.seq (.seq (.reg [sq 7 (.mv (.t 0)),
sq 8 (.len (.t 7)),
sq 9 (.mv (kI 0))])
 (.sem (.block 0 (.loop (.seq (.reg [sq 10 (.bin .lss (.t 9) (.t 8))])
 (.seq (.cond (.t 10)
 .skip
 (.exit 0))
 (.seq (.block 1 (.seq (.reg [sq 11 (.indexA 3 (.t 7) (.t 9)),
sq 12 (.load (some 3) (.t 11)),
sq 6 (.zbox [dS ⟨#[]⟩,dI 0,dN]),
su (.store 3 (.t 6) (.t 12))])
 (.seq (.reg [sq 13 (.load (some 3) (.t 6)),
sq 14 (.mv (.t 1)),
sq 15 (.call 54 [(.t 13),(.t 14)]),
sq 16 (.not (.t 15))])
 (.cond (.t 16)
 (.seq (.reg [sq 4 (.mv (kB false))])
 .ret)
 .skip))))
 (.reg [sq 17 (.bin .add (.t 9) (kI 1)),
sq 9 (.mv (.t 17))]))))))))
 (.seq (.reg [sq 4 (.mv (kB true))])
 .ret)))⟩
theorem F42_ok{x0 x1 r}(h:F42 x0 x1=some r):CallD Try.prog 42 [.c (dM (x0.map eRequirement)),.c (dM (x1.map eLabel))] [] (tupV [.c (dB r)]) []:=by
 rw[F42]at h
 refine zc a42 (by kernel_rfl) rfl (ww ?_)
 obtain⟨o1,ho,h⟩:=bi h
 refine cutS (fun s=>∃po1,o1=Sum.inr po1∧s=⟨[],[]⟩) ?_ ?_
 ·have h0o1:=h
  have h:=ho
  clear ho
  obtain⟨_,hk,h⟩:=bi h
  have hk:=ck_some hk
  refine ww ?_
  refine bL (fun j s=>∃(o1_0:Nat),(o1_0≤x0.length∧j=x0.length-o1_0)∧s=⟨[(1,.one (.c (dM (x1.map eLabel)))),(7,.one (.c (dM (x0.map eRequirement)))),(8,.one (.c (dI ((x0.length:Int))))),(9,.one (.c (dI ((o1_0:Int)))))],[]⟩∧F42_l1 x1 (x0.drop o1_0) o1_0=some o1) (x0.length-0) [] ⟨0,⟨hk.1,rfl⟩,rfl,h⟩ ?_
  rintro _ _ ⟨o1_0,⟨hi,rfl⟩,rfl,h⟩
  refine ww ?_
  refine condS (fun c2=>?_) (fun c2=>?_)
  ·obtain⟨xo1,hxo1,hd⟩:=countY (show(o1_0:Int)<(x0.length:Int)from c2)
   rw[hd,F42_l1]at h
   refine ww ?_
   refine t_idxF (enc:=eRequirement) (xs:=x0) rfl rfl hxo1 rfl (ww ?_)
   obtain⟨t3,ht3,h⟩:=bi h
   refine cN [] (F54_ok ht3) trivial (ww ?_)
   refine condBh h (fun c4 h=>?_) (fun c4 h=>?_)
   ·refine ww ?_
    obtain⟨fh0o1,hfh0o1,rfl⟩:=Option.map_eq_some_iff.1 h
    have h:=hfh0o1.trans h0o1
    cases h
    exact eF []
   refine ww ?_
   rw[wrapN (by omega)]
   exact eL' (x0.length-(o1_0+1)) [] ⟨o1_0+1,⟨by omega,rfl⟩,rfl,h⟩ (by omega)
  rw[countN (show¬((o1_0:Int)<(x0.length:Int))from c2),F42_l1]at h
  refine ww ?_
  cases h
  exact eM [] ⟨_,rfl,rfl⟩
 rintro _ ⟨po1,rfl,rfl⟩
 clear ho
 dsimp only at h
 refine ww ?_
 cases h
 exact eF []
def F25(x0:Service)(x1:Pod):Option (Bool):=(((if x1.Meta.Namespace=x0.Meta.Namespace then(if 0<x1.Status.Address then(if x1.Status.Phase=0 then(F42 x0.Selector x1.Meta.Labels).bind fun t5=>some t5 else(if x1.Status.Phase=1 then(F42 x0.Selector x1.Meta.Labels).bind fun t7=>some t7 else some false))else some false)else some false)).bind fun o1=>some o1)
def a25:AFn:=⟨38,[(.tmp 4)],
 (.seq (.reg [sq 2 (.box (.t 0)),
sq 3 (.box (.t 1)),
sq 4 (.mv (kB false))])
 (.seq (.sem (.reg [sq 5 (.fieldA 0 (.t 3)),
sq 6 (.fieldA 1 (.t 5)),
sq 7 (.load none (.t 6)),
sq 8 (.fieldA 0 (.t 2)),
sq 9 (.fieldA 1 (.t 8)),
sq 10 (.load none (.t 9)),
sq 11 (.bin .eql (.t 7) (.t 10)),
sq 12 (.mv (.t 11)),
zg 13 12 true (.fieldA 23 (.t 3)),
zg 14 12 true (.fieldA 6 (.t 13)),
zg 15 12 true (.load none (.t 14)),
zg 16 12 true (.bin .gtr (.t 15) (kI 0)),
sq 17 (.pick (.t 12) (.t 16) (kB false)),
sq 18 (.mv (.t 17)),
zg 19 18 true (.fieldA 23 (.t 3)),
zg 20 18 true (.fieldA 0 (.t 19)),
zg 21 18 true (.load none (.t 20)),
zg 22 18 true (.bin .eql (.t 21) (kI 0)),
zg 23 18 true (.mv (.t 22)),
zg 24 23 false (.fieldA 23 (.t 3)),
zg 25 23 false (.fieldA 0 (.t 24)),
zg 26 23 false (.load none (.t 25)),
zg 27 23 false (.bin .eql (.t 26) (kI 1)),
zg 28 18 true (.pick (.t 23) (kB true) (.t 27)),
sq 29 (.pick (.t 18) (.t 28) (kB false)),
sq 30 (.mv (.t 29)),
zg 31 30 true (.fieldA 13 (.t 2)),
zg 32 30 true (.load none (.t 31)),
zg 33 30 true (.fieldA 0 (.t 3)),
zg 34 30 true (.fieldA 9 (.t 33)),
zg 35 30 true (.load none (.t 34)),
zg 36 30 true (.call 42 [(.t 32),(.t 35)]),
sq 37 (.pick (.t 30) (.t 36) (kB false)),
sq 4 (.mv (.t 37))]))
 .ret))⟩
theorem F25_ok{x0 x1 r}(h:F25 x0 x1=some r):CallD Try.prog 25 [.agg [dS x0.Meta.Kind,dS x0.Meta.Namespace,dS x0.Meta.Name,dI x0.Meta.Uid,dI x0.Meta.Version,dI x0.Meta.Generation,dI x0.Meta.Created,dB x0.Meta.Deleting,dI x0.Meta.DeleteAt,dM (x0.Meta.Labels.map eLabel),dM (x0.Meta.Owners.map eOwner),dM (x0.Meta.Finalizers.map eS),dM (x0.Meta.Managers.map eManager),dM (x0.Selector.map eRequirement),dM (x0.Ports.map eServicePort),dB x0.Sticky,dI x0.Address],.agg [dS x1.Meta.Kind,dS x1.Meta.Namespace,dS x1.Meta.Name,dI x1.Meta.Uid,dI x1.Meta.Version,dI x1.Meta.Generation,dI x1.Meta.Created,dB x1.Meta.Deleting,dI x1.Meta.DeleteAt,dM (x1.Meta.Labels.map eLabel),dM (x1.Meta.Owners.map eOwner),dM (x1.Meta.Finalizers.map eS),dM (x1.Meta.Managers.map eManager),dS x1.Spec.Node,dI x1.Spec.Priority,dI x1.Spec.Restart,dI x1.Spec.Grace,dM (x1.Spec.Containers.map eContainer),dM (x1.Spec.NodeSelector.map eRequirement),dM (x1.Spec.NodeTerms.map eNodeTerm),dM (x1.Spec.PodTerms.map ePodTerm),dM (x1.Spec.Spread.map eSpreadRule),dM (x1.Spec.Tolerations.map eToleration),dI x1.Status.Phase,dB x1.Status.Ready,dI x1.Status.ReadySince,dI x1.Status.Started,dI x1.Status.Finished,dM (x1.Status.Containers.map eContainerStatus),dI x1.Status.Address,dS x1.Status.Nominated,dS x1.Status.Reason]] [] (tupV [.c (dB r)]) []:=by
 rw[F25]at h
 refine zc a25 (by kernel_rfl) rfl (ww ?_)
 obtain⟨o1,ho,h⟩:=bi h
 refine cutS (fun s=>s=⟨[(4,.one (.c (dB o1)))],[]⟩) ?_ ?_
 ·have h:=ho
  clear ho
  refine ww ?_
  refine guardSh h (fun g2 h=>?_) (fun g2 h=>?_)
  ·refine ww ?_
   refine guardSh h (fun g3 h=>?_) (fun g3 h=>?_)
   ·refine ww ?_
    refine guardSh h (fun g4 h=>?_) (fun g4 h=>?_)
    ·refine ww ?_
     obtain⟨t5,ht5,h⟩:=bi h
     refine cN [] (F42_ok ht5) trivial (ww ?_)
     cases h
     exact eM [] rfl
    refine ww ?_
    refine guardSh h (fun g6 h=>?_) (fun g6 h=>?_)
    ·refine ww ?_
     obtain⟨t7,ht7,h⟩:=bi h
     refine cN [] (F42_ok ht7) trivial (ww ?_)
     cases h
     exact eM [] rfl
    refine ww ?_
    cases h
    exact eM [] rfl
   refine ww ?_
   cases h
   exact eM [] rfl
  refine ww ?_
  cases h
  exact eM [] rfl
 rintro _ rfl
 clear ho
 refine ww ?_
 cases h
 exact eF []
end Go.Proofs.Ytfkkccgopmcnaaa
