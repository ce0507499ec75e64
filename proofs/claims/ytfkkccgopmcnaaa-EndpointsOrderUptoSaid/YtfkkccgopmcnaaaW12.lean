/- Each Go function as a function over typed data, and its walk. -/
import Derived.Test.YtfkkccgopmcnaaaW0
import Derived.Test.YtfkkccgopmcnaaaW1
import Derived.Test.YtfkkccgopmcnaaaW4
import Derived.Test.YtfkkccgopmcnaaaW7
import Derived.Test.YtfkkccgopmcnaaaW8
namespace Go.Proofs.Ytfkkccgopmcnaaa
open Go Go.Fw Go.Shelf
set_option maxRecDepth 100000
set_option maxHeartbeats 4000000
set_option linter.unusedSimpArgs false
set_option linter.unusedVariables false
def F40(x0:Pod):Option (Object):=(F51 x0.Spec).bind fun t1=>(F52 x0.Status).bind fun t2=>some ((⟨(⟨(⟨#[80,111,100]⟩:ByteArray),x0.Meta.Namespace,x0.Meta.Name,x0.Meta.Uid,x0.Meta.Version,x0.Meta.Generation,x0.Meta.Created,x0.Meta.Deleting,x0.Meta.DeleteAt,x0.Meta.Labels,x0.Meta.Owners,x0.Meta.Finalizers,x0.Meta.Managers⟩:Meta),(⟨5,0,(⟨#[]⟩:ByteArray),[],t1⟩:TValue),(⟨5,0,(⟨#[]⟩:ByteArray),[],t2⟩:TValue)⟩:Object))
def a40:AFn:=⟨15,[(.cell 2 (some 23))],
 (.seq (.reg [sq 1 (.box (.t 0)),
sq 2 (.zbox [dS ⟨#[]⟩,dS ⟨#[]⟩,dS ⟨#[]⟩,dI 0,dI 0,dI 0,dI 0,dB false,dI 0,dN,dN,dN,dN,dI 0,dI 0,dS ⟨#[]⟩,dN,dN,dI 0,dI 0,dS ⟨#[]⟩,dN,dN])])
 (.seq (.reg [sq 4 (.fieldA 0 (.t 1)),
sq 5 (.load (some 13) (.t 4)),
sq 3 (.zbox [dS ⟨#[]⟩,dS ⟨#[]⟩,dS ⟨#[]⟩,dI 0,dI 0,dI 0,dI 0,dB false,dI 0,dN,dN,dN,dN]),
su (.store 13 (.t 3) (.t 5))])
 (.seq (.reg [sq 6 (.fieldA 0 (.t 3)),
⟨none,none,.store 1 (.t 6) (kS ⟨#[80,111,100]⟩),[],(.lone [3])⟩])
 (.seq (.regd [sq 7 (.load (some 13) (.t 3)),
sq 8 (.fieldA 13 (.t 1)),
sd 9 (.load (some 10) (.t 8)) [1],
zn 10 (.call 51 [(.t 9)]) [1,2] [1,2],
sq 11 (.fieldA 23 (.t 1)),
sd 12 (.load (some 9) (.t 11)) [4],
zl 13 (.call 52 [(.t 12)]) [1,2,3,4,5] [3],
zl 14 (.build [dS ⟨#[]⟩,dS ⟨#[]⟩,dS ⟨#[]⟩,dI 0,dI 0,dI 0,dI 0,dB false,dI 0,dN,dN,dN,dN,dI 0,dI 0,dS ⟨#[]⟩,dN,dN,dI 0,dI 0,dS ⟨#[]⟩,dN,dN] [(0,13,(.t 7)),(13,5,(.t 10)),(18,5,(.t 13))]) [0,1,2,3,4,5,6] [],
⟨none,none,.store 23 (.t 2) (.t 14),[0,1,2,3,4,5,6,7],(.lone [])⟩])
 .ret))))⟩
theorem F40_ok{x0 r}(h:F40 x0=some r):CallD Try.prog 40 [.agg [dS x0.Meta.Kind,dS x0.Meta.Namespace,dS x0.Meta.Name,dI x0.Meta.Uid,dI x0.Meta.Version,dI x0.Meta.Generation,dI x0.Meta.Created,dB x0.Meta.Deleting,dI x0.Meta.DeleteAt,dM (x0.Meta.Labels.map eLabel),dM (x0.Meta.Owners.map eOwner),dM (x0.Meta.Finalizers.map eS),dM (x0.Meta.Managers.map eManager),dS x0.Spec.Node,dI x0.Spec.Priority,dI x0.Spec.Restart,dI x0.Spec.Grace,dM (x0.Spec.Containers.map eContainer),dM (x0.Spec.NodeSelector.map eRequirement),dM (x0.Spec.NodeTerms.map eNodeTerm),dM (x0.Spec.PodTerms.map ePodTerm),dM (x0.Spec.Spread.map eSpreadRule),dM (x0.Spec.Tolerations.map eToleration),dI x0.Status.Phase,dB x0.Status.Ready,dI x0.Status.ReadySince,dI x0.Status.Started,dI x0.Status.Finished,dM (x0.Status.Containers.map eContainerStatus),dI x0.Status.Address,dS x0.Status.Nominated,dS x0.Status.Reason]] [] (tupV [.agg [dS ((r).Meta.Kind),dS ((r).Meta.Namespace),dS ((r).Meta.Name),dI ((r).Meta.Uid),dI ((r).Meta.Version),dI ((r).Meta.Generation),dI ((r).Meta.Created),dB ((r).Meta.Deleting),dI ((r).Meta.DeleteAt),dM (((r).Meta.Labels).map eLabel),dM (((r).Meta.Owners).map eOwner),dM (((r).Meta.Finalizers).map eS),dM (((r).Meta.Managers).map eManager),dI ((r).Spec.Kind),dI ((r).Spec.N),dS ((r).Spec.S),dM (((r).Spec.List_).map eTValue),dM (((r).Spec.Fields).map eTField),dI ((r).Status.Kind),dI ((r).Status.N),dS ((r).Status.S),dM (((r).Status.List_).map eTValue),dM (((r).Status.Fields).map eTField)]]) []:=by
 rw[F40]at h
 refine zc a40 (by kernel_rfl) rfl (ww ?_)
 obtain⟨t1,ht1,h⟩:=bi h
 refine cN [] (F51_ok ht1) trivial (ww ?_)
 obtain⟨t2,ht2,h⟩:=bi h
 refine cN [] (F52_ok ht2) trivial (ww ?_)
 cases h
 exact eF []
def F22(x0:Pod):Option (Bool):=(F40 x0).bind fun t1=>(((F21 x0.Meta).bind fun t3=>(if t3=true then(F41 ((⟨(t1).Spec.Kind,(t1).Spec.N,(t1).Spec.S,(t1).Spec.List_,(t1).Spec.Fields⟩:TValue)) 20000).bind fun t5=>(if t5=true then(F41 ((⟨(t1).Status.Kind,(t1).Status.N,(t1).Status.S,(t1).Status.List_,(t1).Status.Fields⟩:TValue)) 20000).bind fun t7=>some t7 else some false)else some false)).bind fun o2=>some o2)
def a22:AFn:=⟨19,[(.tmp 2)],
 (.seq (.reg [sq 1 (.box (.t 0)),
sq 2 (.mv (kB false))])
 (.seq (.reg [sq 4 (.load (some 32) (.t 1)),
sq 5 (.call 40 [(.t 4)]),
sq 3 (.zbox [dS ⟨#[]⟩,dS ⟨#[]⟩,dS ⟨#[]⟩,dI 0,dI 0,dI 0,dI 0,dB false,dI 0,dN,dN,dN,dN,dI 0,dI 0,dS ⟨#[]⟩,dN,dN,dI 0,dI 0,dS ⟨#[]⟩,dN,dN]),
su (.store 23 (.t 3) (.t 5))])
 (.seq (.sem (.reg [sq 6 (.fieldA 0 (.t 1)),
sq 7 (.load (some 13) (.t 6)),
sq 8 (.call 21 [(.t 7)]),
sq 9 (.mv (.t 8)),
zg 10 9 true (.fieldA 13 (.t 3)),
zg 11 9 true (.load (some 5) (.t 10)),
zg 12 9 true (.call 41 [(.t 11),(kI 20000)]),
sq 13 (.pick (.t 9) (.t 12) (kB false)),
sq 14 (.mv (.t 13)),
zg 15 14 true (.fieldA 18 (.t 3)),
zg 16 14 true (.load (some 5) (.t 15)),
zg 17 14 true (.call 41 [(.t 16),(kI 20000)]),
sq 18 (.pick (.t 14) (.t 17) (kB false)),
sq 2 (.mv (.t 18))]))
 .ret)))⟩
theorem F22_ok{x0 r}(h:F22 x0=some r):CallD Try.prog 22 [.agg [dS x0.Meta.Kind,dS x0.Meta.Namespace,dS x0.Meta.Name,dI x0.Meta.Uid,dI x0.Meta.Version,dI x0.Meta.Generation,dI x0.Meta.Created,dB x0.Meta.Deleting,dI x0.Meta.DeleteAt,dM (x0.Meta.Labels.map eLabel),dM (x0.Meta.Owners.map eOwner),dM (x0.Meta.Finalizers.map eS),dM (x0.Meta.Managers.map eManager),dS x0.Spec.Node,dI x0.Spec.Priority,dI x0.Spec.Restart,dI x0.Spec.Grace,dM (x0.Spec.Containers.map eContainer),dM (x0.Spec.NodeSelector.map eRequirement),dM (x0.Spec.NodeTerms.map eNodeTerm),dM (x0.Spec.PodTerms.map ePodTerm),dM (x0.Spec.Spread.map eSpreadRule),dM (x0.Spec.Tolerations.map eToleration),dI x0.Status.Phase,dB x0.Status.Ready,dI x0.Status.ReadySince,dI x0.Status.Started,dI x0.Status.Finished,dM (x0.Status.Containers.map eContainerStatus),dI x0.Status.Address,dS x0.Status.Nominated,dS x0.Status.Reason]] [] (tupV [.c (dB r)]) []:=by
 rw[F22]at h
 refine zc a22 (by kernel_rfl) rfl (ww ?_)
 obtain⟨t1,ht1,h⟩:=bi h
 refine cN [] (F40_ok ht1) trivial (ww ?_)
 obtain⟨o2,ho,h⟩:=bi h
 refine cutS (fun s=>s=⟨[(2,.one (.c (dB o2)))],[]⟩) ?_ ?_
 ·have h:=ho
  clear ho
  refine ww ?_
  obtain⟨t3,ht3,h⟩:=bi h
  refine cN [] (F21_ok ht3) trivial (ww ?_)
  refine guardSBh h (fun g4 h=>?_) (fun g4 h=>?_)
  ·refine ww ?_
   obtain⟨t5,ht5,h⟩:=bi h
   refine cN [] (F41_ok ht5) trivial (ww ?_)
   refine guardSBh h (fun g6 h=>?_) (fun g6 h=>?_)
   ·refine ww ?_
    obtain⟨t7,ht7,h⟩:=bi h
    refine cN [] (F41_ok ht7) trivial (ww ?_)
    cases h
    exact eM [] rfl
   refine ww ?_
   cases h
   exact eM [] rfl
  refine ww ?_
  cases h
  exact eM [] rfl
 rintro _ rfl
 clear ho
 refine ww ?_
 cases h
 exact eF []
def F8_l2:List Pod→Nat→Option ((Bool) ⊕ (Unit))
 |[],o2_0=>some (Sum.inr (()))
 |xo2::xs,o2_0=>(F22 xo2).bind fun t4=>(if(nb t4)=true then(some false).map Sum.inl else F8_l2 xs (o2_0+1))
def F8(x0:(List Pod)):Option (Bool):=(if 20<(x0.length:Int)then some false else(((ck (0≤x0.length∧x0.length≤4294967290)).bind fun u6=>F8_l2 x0 0:Option ((Bool) ⊕ (Unit))).bind fun o2=>match o2 with|Sum.inl f=>some f|Sum.inr po2=>some true))
def a8:AFn:=⟨18,[(.tmp 2)],
 (.seq (.reg [sq 2 (.mv (kB false))])
 (.seq (.seq (.reg [sq 5 (.mv (.t 0)),
sq 6 (.len (.t 5)),
sq 7 (.bin .gtr (.t 6) (kI 20))])
 (.cond (.t 7)
 (.seq (.reg [sq 2 (.mv (kB false))])
 .ret)
 .skip))
 (.seq (.seq (.reg [sq 8 (.mv (.t 0)),
sq 9 (.len (.t 8)),
sq 10 (.mv (kI 0))])
 (.sem (.block 0 (.loop (.seq (.reg [sq 11 (.bin .lss (.t 10) (.t 9))])
 (.seq (.cond (.t 11)
 .skip
 (.exit 0))
 (.seq (.block 1 (.seq (.reg [sq 12 (.indexA 32 (.t 8) (.t 10)),
sq 13 (.load (some 32) (.t 12)),
sq 4 (.zbox [dS ⟨#[]⟩,dS ⟨#[]⟩,dS ⟨#[]⟩,dI 0,dI 0,dI 0,dI 0,dB false,dI 0,dN,dN,dN,dN,dS ⟨#[]⟩,dI 0,dI 0,dI 0,dN,dN,dN,dN,dN,dN,dI 0,dB false,dI 0,dI 0,dI 0,dN,dI 0,dS ⟨#[]⟩,dS ⟨#[]⟩]),
su (.store 32 (.t 4) (.t 13))])
 (.seq (.reg [sq 14 (.load (some 32) (.t 4)),
sq 15 (.call 22 [(.t 14)]),
sq 16 (.not (.t 15))])
 (.cond (.t 16)
 (.seq (.reg [sq 2 (.mv (kB false))])
 .ret)
 .skip))))
 (.reg [sq 17 (.bin .add (.t 10) (kI 1)),
sq 10 (.mv (.t 17))]))))))))
 (.seq (.reg [sq 2 (.mv (kB true))])
 .ret))))⟩
theorem F8_ok{x0 r}(h:F8 x0=some r):CallD Try.prog 8 [.c (dM (x0.map ePod))] [] (tupV [.c (dB r)]) []:=by
 rw[F8]at h
 refine zc a8 (by kernel_rfl) rfl (ww ?_)
 refine condSh h (fun c1 h=>?_) (fun c1 h=>?_)
 ·refine ww ?_
  cases h
  exact eF []
 refine ww ?_
 obtain⟨o2,ho,h⟩:=bi h
 refine cutS (fun s=>∃po2,o2=Sum.inr po2∧s=⟨[],[]⟩) ?_ ?_
 ·have h0o2:=h
  have h:=ho
  clear ho
  obtain⟨_,hk,h⟩:=bi h
  have hk:=ck_some hk
  refine ww ?_
  refine bL (fun j s=>∃(o2_0:Nat),(o2_0≤x0.length∧j=x0.length-o2_0)∧s=⟨[(8,.one (.c (dM (x0.map ePod)))),(9,.one (.c (dI ((x0.length:Int))))),(10,.one (.c (dI ((o2_0:Int)))))],[]⟩∧F8_l2 (x0.drop o2_0) o2_0=some o2) (x0.length-0) [] ⟨0,⟨hk.1,rfl⟩,rfl,h⟩ ?_
  rintro _ _ ⟨o2_0,⟨hi,rfl⟩,rfl,h⟩
  refine ww ?_
  refine condS (fun c3=>?_) (fun c3=>?_)
  ·obtain⟨xo2,hxo2,hd⟩:=countY (show(o2_0:Int)<(x0.length:Int)from c3)
   rw[hd,F8_l2]at h
   refine ww ?_
   refine t_idxF (enc:=ePod) (xs:=x0) rfl rfl hxo2 rfl (ww ?_)
   obtain⟨t4,ht4,h⟩:=bi h
   refine cN [] (F22_ok ht4) trivial (ww ?_)
   refine condBh h (fun c5 h=>?_) (fun c5 h=>?_)
   ·refine ww ?_
    obtain⟨fh0o2,hfh0o2,rfl⟩:=Option.map_eq_some_iff.1 h
    have h:=hfh0o2.trans h0o2
    cases h
    exact eF []
   refine ww ?_
   rw[wrapN (by omega)]
   exact eL' (x0.length-(o2_0+1)) [] ⟨o2_0+1,⟨by omega,rfl⟩,rfl,h⟩ (by omega)
  rw[countN (show¬((o2_0:Int)<(x0.length:Int))from c3),F8_l2]at h
  refine ww ?_
  cases h
  exact eM [] ⟨_,rfl,rfl⟩
 rintro _ ⟨po2,rfl,rfl⟩
 clear ho
 dsimp only at h
 refine ww ?_
 cases h
 exact eF []
end Go.Proofs.Ytfkkccgopmcnaaa
