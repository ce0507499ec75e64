/- Each Go function as a function over typed data, and its walk. -/
import Derived.Test.YtedgocbpegllaaaFE
import Derived.Ground.NamesProg
import Derived.Shelf.Lay
import Derived.KernelRfl
import Derived.Test.YtedgocbpegllaaaProg
namespace Go.Proofs.Ytedgocbpegllaaa
open Go Go.Fw Go.Shelf
set_option maxRecDepth 100000
set_option maxHeartbeats 4000000
set_option linter.unusedSimpArgs false
set_option linter.unusedVariables false
structure Label where
 Key:ByteArray
 Value:ByteArray
 deriving DecidableEq
def okLabel(x:Label):Prop:=okT x.Key∧okT x.Value∧True
def wLabel(x:Label):Nat:=wS x.Key+(wS x.Value+0)+1
def eLabel(x:Label):List D:=[.v (.string x.Key),.v (.string x.Value)]
structure Owner where
 Kind:ByteArray
 Name:ByteArray
 Uid:Int
 Controller:Bool
 Block:Bool
 deriving DecidableEq
def okOwner(x:Owner):Prop:=okT x.Kind∧okT x.Name∧okN x.Uid∧okT x.Controller∧okT x.Block∧True
def wOwner(x:Owner):Nat:=wS x.Kind+(wS x.Name+(wN x.Uid+(wN x.Controller+(wN x.Block+0))))+1
def eOwner(x:Owner):List D:=[.v (.string x.Kind),.v (.string x.Name),.v (.int .i64 x.Uid),.v (.bool x.Controller),.v (.bool x.Block)]
structure Manager where
 Name:ByteArray
 Fields:(List ByteArray)
 deriving DecidableEq
def okManager(x:Manager):Prop:=okT x.Name∧(okL okT) x.Fields∧True
def wManager(x:Manager):Nat:=wS x.Name+((wL wS) x.Fields+0)+1
def eManager(x:Manager):List D:=[.v (.string x.Name),.sl (x.Fields.map eS)]
structure Meta where
 Kind:ByteArray
 Namespace:ByteArray
 Name:ByteArray
 Uid:Int
 Version:Int
 Generation:Int
 Created:Int
 Deleting:Bool
 DeleteAt:Int
 Labels:(List Label)
 Owners:(List Owner)
 Finalizers:(List ByteArray)
 Managers:(List Manager)
 deriving DecidableEq
def okMeta(x:Meta):Prop:=okT x.Kind∧okT x.Namespace∧okT x.Name∧okN x.Uid∧okN x.Version∧okN x.Generation∧okN x.Created∧okT x.Deleting∧okN x.DeleteAt∧(okL okLabel) x.Labels∧(okL okOwner) x.Owners∧(okL okT) x.Finalizers∧(okL okManager) x.Managers∧True
def wMeta(x:Meta):Nat:=wS x.Kind+(wS x.Namespace+(wS x.Name+(wN x.Uid+(wN x.Version+(wN x.Generation+(wN x.Created+(wN x.Deleting+(wN x.DeleteAt+((wL wLabel) x.Labels+((wL wOwner) x.Owners+((wL wS) x.Finalizers+((wL wManager) x.Managers+0))))))))))))+1
def eMeta(x:Meta):List D:=[.v (.string x.Kind),.v (.string x.Namespace),.v (.string x.Name),.v (.int .i64 x.Uid),.v (.int .i64 x.Version),.v (.int .i64 x.Generation),.v (.int .i64 x.Created),.v (.bool x.Deleting),.v (.int .i64 x.DeleteAt),.sl (x.Labels.map eLabel),.sl (x.Owners.map eOwner),.sl (x.Finalizers.map eS),.sl (x.Managers.map eManager)]
structure Requirement where
 Key:ByteArray
 Op:Int
 Values:(List ByteArray)
 deriving DecidableEq
def okRequirement(x:Requirement):Prop:=okT x.Key∧okN x.Op∧(okL okT) x.Values∧True
def wRequirement(x:Requirement):Nat:=wS x.Key+(wN x.Op+((wL wS) x.Values+0))+1
def eRequirement(x:Requirement):List D:=[.v (.string x.Key),.v (.int .i64 x.Op),.sl (x.Values.map eS)]
structure Amount where
 Percent:Bool
 N:Int
 deriving DecidableEq
def okAmount(x:Amount):Prop:=okT x.Percent∧okN x.N∧True
def wAmount(x:Amount):Nat:=wN x.Percent+(wN x.N+0)+1
def eAmount(x:Amount):List D:=[.v (.bool x.Percent),.v (.int .i64 x.N)]
structure WorkItem where
 Key:ByteArray
 At:Int
 deriving DecidableEq
def okWorkItem(x:WorkItem):Prop:=okT x.Key∧okN x.At∧True
def wWorkItem(x:WorkItem):Nat:=wS x.Key+(wN x.At+0)+1
def eWorkItem(x:WorkItem):List D:=[.v (.string x.Key),.v (.int .i64 x.At)]
structure Budget where
 Meta:Meta
 Selector:(List Requirement)
 MinAvailable:(List Amount)
 MaxUnavailable:(List Amount)
 Observed:Int
 Healthy:Int
 Desired:Int
 Expected:Int
 Allowed:Int
 Disrupted:(List WorkItem)
 deriving DecidableEq
def okBudget(x:Budget):Prop:=okMeta x.Meta∧(okL okRequirement) x.Selector∧(okL okAmount) x.MinAvailable∧(okL okAmount) x.MaxUnavailable∧okN x.Observed∧okN x.Healthy∧okN x.Desired∧okN x.Expected∧okN x.Allowed∧(okL okWorkItem) x.Disrupted∧True
def wBudget(x:Budget):Nat:=wMeta x.Meta+((wL wRequirement) x.Selector+((wL wAmount) x.MinAvailable+((wL wAmount) x.MaxUnavailable+(wN x.Observed+(wN x.Healthy+(wN x.Desired+(wN x.Expected+(wN x.Allowed+((wL wWorkItem) x.Disrupted+0)))))))))+1
def eBudget(x:Budget):List D:=[.v (.string x.Meta.Kind),.v (.string x.Meta.Namespace),.v (.string x.Meta.Name),.v (.int .i64 x.Meta.Uid),.v (.int .i64 x.Meta.Version),.v (.int .i64 x.Meta.Generation),.v (.int .i64 x.Meta.Created),.v (.bool x.Meta.Deleting),.v (.int .i64 x.Meta.DeleteAt),.sl (x.Meta.Labels.map eLabel),.sl (x.Meta.Owners.map eOwner),.sl (x.Meta.Finalizers.map eS),.sl (x.Meta.Managers.map eManager),.sl (x.Selector.map eRequirement),.sl (x.MinAvailable.map eAmount),.sl (x.MaxUnavailable.map eAmount),.v (.int .i64 x.Observed),.v (.int .i64 x.Healthy),.v (.int .i64 x.Desired),.v (.int .i64 x.Expected),.v (.int .i64 x.Allowed),.sl (x.Disrupted.map eWorkItem)]
structure Resources where
 CPU:Int
 Memory:Int
 Disk:Int
 deriving DecidableEq
def okResources(x:Resources):Prop:=okN x.CPU∧okN x.Memory∧okN x.Disk∧True
def wResources(x:Resources):Nat:=wN x.CPU+(wN x.Memory+(wN x.Disk+0))+1
def eResources(x:Resources):List D:=[.v (.int .i64 x.CPU),.v (.int .i64 x.Memory),.v (.int .i64 x.Disk)]
structure Probe where
 Delay:Int
 Period:Int
 Success:Int
 Failure:Int
 deriving DecidableEq
def okProbe(x:Probe):Prop:=okN x.Delay∧okN x.Period∧okN x.Success∧okN x.Failure∧True
def wProbe(x:Probe):Nat:=wN x.Delay+(wN x.Period+(wN x.Success+(wN x.Failure+0)))+1
def eProbe(x:Probe):List D:=[.v (.int .i64 x.Delay),.v (.int .i64 x.Period),.v (.int .i64 x.Success),.v (.int .i64 x.Failure)]
structure Container where
 Name:ByteArray
 Image:ByteArray
 Request:Resources
 Limit:Resources
 Live:(List Probe)
 Ready:(List Probe)
 Startup:(List Probe)
 deriving DecidableEq
def okContainer(x:Container):Prop:=okT x.Name∧okT x.Image∧okResources x.Request∧okResources x.Limit∧(okL okProbe) x.Live∧(okL okProbe) x.Ready∧(okL okProbe) x.Startup∧True
def wContainer(x:Container):Nat:=wS x.Name+(wS x.Image+(wResources x.Request+(wResources x.Limit+((wL wProbe) x.Live+((wL wProbe) x.Ready+((wL wProbe) x.Startup+0))))))+1
def eContainer(x:Container):List D:=[.v (.string x.Name),.v (.string x.Image),.v (.int .i64 x.Request.CPU),.v (.int .i64 x.Request.Memory),.v (.int .i64 x.Request.Disk),.v (.int .i64 x.Limit.CPU),.v (.int .i64 x.Limit.Memory),.v (.int .i64 x.Limit.Disk),.sl (x.Live.map eProbe),.sl (x.Ready.map eProbe),.sl (x.Startup.map eProbe)]
structure NodeTerm where
 Required:Bool
 Selector:(List Requirement)
 Weight:Int
 deriving DecidableEq
def okNodeTerm(x:NodeTerm):Prop:=okT x.Required∧(okL okRequirement) x.Selector∧okN x.Weight∧True
def wNodeTerm(x:NodeTerm):Nat:=wN x.Required+((wL wRequirement) x.Selector+(wN x.Weight+0))+1
def eNodeTerm(x:NodeTerm):List D:=[.v (.bool x.Required),.sl (x.Selector.map eRequirement),.v (.int .i64 x.Weight)]
structure PodTerm where
 Required:Bool
 Anti:Bool
 Selector:(List Requirement)
 Topology:ByteArray
 Weight:Int
 deriving DecidableEq
def okPodTerm(x:PodTerm):Prop:=okT x.Required∧okT x.Anti∧(okL okRequirement) x.Selector∧okT x.Topology∧okN x.Weight∧True
def wPodTerm(x:PodTerm):Nat:=wN x.Required+(wN x.Anti+((wL wRequirement) x.Selector+(wS x.Topology+(wN x.Weight+0))))+1
def ePodTerm(x:PodTerm):List D:=[.v (.bool x.Required),.v (.bool x.Anti),.sl (x.Selector.map eRequirement),.v (.string x.Topology),.v (.int .i64 x.Weight)]
structure SpreadRule where
 MaxSkew:Int
 Topology:ByteArray
 Selector:(List Requirement)
 Required:Bool
 deriving DecidableEq
def okSpreadRule(x:SpreadRule):Prop:=okN x.MaxSkew∧okT x.Topology∧(okL okRequirement) x.Selector∧okT x.Required∧True
def wSpreadRule(x:SpreadRule):Nat:=wN x.MaxSkew+(wS x.Topology+((wL wRequirement) x.Selector+(wN x.Required+0)))+1
def eSpreadRule(x:SpreadRule):List D:=[.v (.int .i64 x.MaxSkew),.v (.string x.Topology),.sl (x.Selector.map eRequirement),.v (.bool x.Required)]
structure Toleration where
 Key:ByteArray
 Value:ByteArray
 Exists:Bool
 Effect:Int
 Seconds:Int
 deriving DecidableEq
def okToleration(x:Toleration):Prop:=okT x.Key∧okT x.Value∧okT x.Exists∧okN x.Effect∧okN x.Seconds∧True
def wToleration(x:Toleration):Nat:=wS x.Key+(wS x.Value+(wN x.Exists+(wN x.Effect+(wN x.Seconds+0))))+1
def eToleration(x:Toleration):List D:=[.v (.string x.Key),.v (.string x.Value),.v (.bool x.Exists),.v (.int .i64 x.Effect),.v (.int .i64 x.Seconds)]
structure PodSpec where
 Node:ByteArray
 Priority:Int
 Restart:Int
 Grace:Int
 Containers:(List Container)
 NodeSelector:(List Requirement)
 NodeTerms:(List NodeTerm)
 PodTerms:(List PodTerm)
 Spread:(List SpreadRule)
 Tolerations:(List Toleration)
 deriving DecidableEq
def okPodSpec(x:PodSpec):Prop:=okT x.Node∧okN x.Priority∧okN x.Restart∧okN x.Grace∧(okL okContainer) x.Containers∧(okL okRequirement) x.NodeSelector∧(okL okNodeTerm) x.NodeTerms∧(okL okPodTerm) x.PodTerms∧(okL okSpreadRule) x.Spread∧(okL okToleration) x.Tolerations∧True
def wPodSpec(x:PodSpec):Nat:=wS x.Node+(wN x.Priority+(wN x.Restart+(wN x.Grace+((wL wContainer) x.Containers+((wL wRequirement) x.NodeSelector+((wL wNodeTerm) x.NodeTerms+((wL wPodTerm) x.PodTerms+((wL wSpreadRule) x.Spread+((wL wToleration) x.Tolerations+0)))))))))+1
def ePodSpec(x:PodSpec):List D:=[.v (.string x.Node),.v (.int .i64 x.Priority),.v (.int .i64 x.Restart),.v (.int .i64 x.Grace),.sl (x.Containers.map eContainer),.sl (x.NodeSelector.map eRequirement),.sl (x.NodeTerms.map eNodeTerm),.sl (x.PodTerms.map ePodTerm),.sl (x.Spread.map eSpreadRule),.sl (x.Tolerations.map eToleration)]
structure ContainerStatus where
 Name:ByteArray
 State:Int
 Restarts:Int
 ExitCode:Int
 Since:Int
 Ready:Bool
 Started:Bool
 deriving DecidableEq
def okContainerStatus(x:ContainerStatus):Prop:=okT x.Name∧okN x.State∧okN x.Restarts∧okN x.ExitCode∧okN x.Since∧okT x.Ready∧okT x.Started∧True
def wContainerStatus(x:ContainerStatus):Nat:=wS x.Name+(wN x.State+(wN x.Restarts+(wN x.ExitCode+(wN x.Since+(wN x.Ready+(wN x.Started+0))))))+1
def eContainerStatus(x:ContainerStatus):List D:=[.v (.string x.Name),.v (.int .i64 x.State),.v (.int .i64 x.Restarts),.v (.int .i64 x.ExitCode),.v (.int .i64 x.Since),.v (.bool x.Ready),.v (.bool x.Started)]
structure PodStatus where
 Phase:Int
 Ready:Bool
 ReadySince:Int
 Started:Int
 Finished:Int
 Containers:(List ContainerStatus)
 Address:Int
 Nominated:ByteArray
 Reason:ByteArray
 deriving DecidableEq
def okPodStatus(x:PodStatus):Prop:=okN x.Phase∧okT x.Ready∧okN x.ReadySince∧okN x.Started∧okN x.Finished∧(okL okContainerStatus) x.Containers∧okN x.Address∧okT x.Nominated∧okT x.Reason∧True
def wPodStatus(x:PodStatus):Nat:=wN x.Phase+(wN x.Ready+(wN x.ReadySince+(wN x.Started+(wN x.Finished+((wL wContainerStatus) x.Containers+(wN x.Address+(wS x.Nominated+(wS x.Reason+0))))))))+1
def ePodStatus(x:PodStatus):List D:=[.v (.int .i64 x.Phase),.v (.bool x.Ready),.v (.int .i64 x.ReadySince),.v (.int .i64 x.Started),.v (.int .i64 x.Finished),.sl (x.Containers.map eContainerStatus),.v (.int .i64 x.Address),.v (.string x.Nominated),.v (.string x.Reason)]
structure Pod where
 Meta:Meta
 Spec:PodSpec
 Status:PodStatus
 deriving DecidableEq
def okPod(x:Pod):Prop:=okMeta x.Meta∧okPodSpec x.Spec∧okPodStatus x.Status∧True
def wPod(x:Pod):Nat:=wMeta x.Meta+(wPodSpec x.Spec+(wPodStatus x.Status+0))+1
def ePod(x:Pod):List D:=[.v (.string x.Meta.Kind),.v (.string x.Meta.Namespace),.v (.string x.Meta.Name),.v (.int .i64 x.Meta.Uid),.v (.int .i64 x.Meta.Version),.v (.int .i64 x.Meta.Generation),.v (.int .i64 x.Meta.Created),.v (.bool x.Meta.Deleting),.v (.int .i64 x.Meta.DeleteAt),.sl (x.Meta.Labels.map eLabel),.sl (x.Meta.Owners.map eOwner),.sl (x.Meta.Finalizers.map eS),.sl (x.Meta.Managers.map eManager),.v (.string x.Spec.Node),.v (.int .i64 x.Spec.Priority),.v (.int .i64 x.Spec.Restart),.v (.int .i64 x.Spec.Grace),.sl (x.Spec.Containers.map eContainer),.sl (x.Spec.NodeSelector.map eRequirement),.sl (x.Spec.NodeTerms.map eNodeTerm),.sl (x.Spec.PodTerms.map ePodTerm),.sl (x.Spec.Spread.map eSpreadRule),.sl (x.Spec.Tolerations.map eToleration),.v (.int .i64 x.Status.Phase),.v (.bool x.Status.Ready),.v (.int .i64 x.Status.ReadySince),.v (.int .i64 x.Status.Started),.v (.int .i64 x.Status.Finished),.sl (x.Status.Containers.map eContainerStatus),.v (.int .i64 x.Status.Address),.v (.string x.Status.Nominated),.v (.string x.Status.Reason)]
structure RBud where
 Meta:Meta
 Selector:(List Requirement)
 MinAvailable:(List Amount)
 MaxUnavailable:(List Amount)
 Observed:Int
 Healthy:Int
 Desired:Int
 Expected:Int
 Allowed:Int
 Disrupted:D
def eRBud(x:RBud):List D:=[.v (.string x.Meta.Kind),.v (.string x.Meta.Namespace),.v (.string x.Meta.Name),.v (.int .i64 x.Meta.Uid),.v (.int .i64 x.Meta.Version),.v (.int .i64 x.Meta.Generation),.v (.int .i64 x.Meta.Created),.v (.bool x.Meta.Deleting),.v (.int .i64 x.Meta.DeleteAt),.sl (x.Meta.Labels.map eLabel),.sl (x.Meta.Owners.map eOwner),.sl (x.Meta.Finalizers.map eS),.sl (x.Meta.Managers.map eManager),.sl (x.Selector.map eRequirement),.sl (x.MinAvailable.map eAmount),.sl (x.MaxUnavailable.map eAmount),.v (.int .i64 x.Observed),.v (.int .i64 x.Healthy),.v (.int .i64 x.Desired),.v (.int .i64 x.Expected),.v (.int .i64 x.Allowed),x.Disrupted]
def EE:=PLift.up (And.intro (And.intro (And.intro (And.intro @eI.eq_1 (And.intro @eB.eq_1 @eS.eq_1)) (And.intro @eK.eq_1 (And.intro @eL.eq_1 @eRaw.eq_1))) (And.intro (And.intro @eLabel.eq_1 (And.intro @eOwner.eq_1 @eManager.eq_1)) (And.intro (And.intro @eMeta.eq_1 @eRequirement.eq_1) (And.intro @eAmount.eq_1 @eWorkItem.eq_1)))) (And.intro (And.intro (And.intro @eBudget.eq_1 (And.intro @eResources.eq_1 @eProbe.eq_1)) (And.intro @eContainer.eq_1 (And.intro @eNodeTerm.eq_1 @ePodTerm.eq_1))) (And.intro (And.intro @eSpreadRule.eq_1 (And.intro @eToleration.eq_1 @ePodSpec.eq_1)) (And.intro (And.intro @eContainerStatus.eq_1 @ePodStatus.eq_1) (And.intro @ePod.eq_1 @eRBud.eq_1)))))
theorem eM{n m:Nat}{Q:XT→St→Prop}{R:St→Prop}{s':St}{sl:List (Nat×AV)}{H':List (Option Blk)}(σ:Src)(hR:R ⟨sl,H'⟩)(hB:shBs s'.heap σ H' σ H':=by simp only[ZZ.down,Nat.reduceEqDiff,reduceCtorEq,Nat.reduceAdd,Nat.reduceLeDiff,Nat.reduceLT,Nat.reduceBNe,EE.down])(hk:keepS 0 (s'.heap.take m) σ H':=by simp only[ZZ.down,Nat.reduceEqDiff,reduceCtorEq,Nat.reduceAdd,Nat.reduceLeDiff,Nat.reduceLT,Nat.reduceBNe,EE.down])(hs:shSl s'.heap σ H' s'.slots sl:=by simp only[ZZ.down,Nat.reduceEqDiff,reduceCtorEq,Nat.reduceAdd,Nat.reduceLeDiff,Nat.reduceLT,Nat.reduceBNe,EE.down])(hn:nodupS σ=true:=by rfl):sM n m R Q .normal s':=endM σ ⟨hB,hn,hk⟩ hs hR
theorem eL'{n m:Nat}{Q:XT→St→Prop}{I:Nat→St→Prop}{j:Nat}(k':Nat){s':St}{sl:List (Nat×AV)}{H':List (Option Blk)}(σ:Src)(hI:I k' ⟨sl,H'⟩)(hj:k'<j)(hB:shBs s'.heap σ H' σ H':=by simp only[ZZ.down,Nat.reduceEqDiff,reduceCtorEq,Nat.reduceAdd,Nat.reduceLeDiff,Nat.reduceLT,Nat.reduceBNe,EE.down])(hk:keepS 0 (s'.heap.take m) σ H':=by simp only[ZZ.down,Nat.reduceEqDiff,reduceCtorEq,Nat.reduceAdd,Nat.reduceLeDiff,Nat.reduceLT,Nat.reduceBNe,EE.down])(hs:shSl s'.heap σ H' s'.slots sl:=by simp only[ZZ.down,Nat.reduceEqDiff,reduceCtorEq,Nat.reduceAdd,Nat.reduceLeDiff,Nat.reduceLT,Nat.reduceBNe,EE.down])(hn:nodupS σ=true:=by rfl):sL n m I j Q .normal s':=endL k' hj σ ⟨hB,hn,hk⟩ hs hI
theorem bL{P:Program}{n m:Nat}{Q:XT→St→Prop}{s:St}{k:List Frm}{body:AC}(I:Nat→St→Prop)(k0:Nat){sl:List (Nat×AV)}{H':List (Option Blk)}(σ:Src)(hI:I k0 ⟨sl,H'⟩)(hr:∀j s,I j s→sK P n m body [] (sL n m I j (sU P n m k Q)) s)(hB:shBs s.heap σ H' σ H':=by simp only[ZZ.down,Nat.reduceEqDiff,reduceCtorEq,Nat.reduceAdd,Nat.reduceLeDiff,Nat.reduceLT,Nat.reduceBNe,EE.down])(hk:keepS 0 (s.heap.take m) σ H':=by simp only[ZZ.down,Nat.reduceEqDiff,reduceCtorEq,Nat.reduceAdd,Nat.reduceLeDiff,Nat.reduceLT,Nat.reduceBNe,EE.down])(hs:shSl s.heap σ H' s.slots sl:=by simp only[ZZ.down,Nat.reduceEqDiff,reduceCtorEq,Nat.reduceAdd,Nat.reduceLeDiff,Nat.reduceLT,Nat.reduceBNe,EE.down])(hn:nodupS σ=true:=by rfl):WpC P n m (.loop body) (sU P n m k Q) s:=begL I k0 σ ⟨hB,hn,hk⟩ hs hI hr
theorem eF{m:Nat}{h:List (Option Blk)}{l res:List A1}{H':List (Option Blk)}(σ:Src)(hB:shBs h σ H' σ H':=by simp only[ZZ.down,Nat.reduceEqDiff,reduceCtorEq,Nat.reduceAdd,Nat.reduceLeDiff,Nat.reduceLT,Nat.reduceBNe,EE.down])(hk:keepS 0 (h.take m) σ H':=by simp only[ZZ.down,Nat.reduceEqDiff,reduceCtorEq,Nat.reduceAdd,Nat.reduceLeDiff,Nat.reduceLT,Nat.reduceBNe,EE.down])(hs:shAs h σ H' res l:=by simp only[ZZ.down,Nat.reduceEqDiff,reduceCtorEq,Nat.reduceAdd,Nat.reduceLeDiff,Nat.reduceLT,Nat.reduceBNe,EE.down])(hn:nodupS σ=true:=by rfl):Fin m h l res H':=fin_sh σ ⟨hB,hn,hk⟩ hs
theorem eV{n m:Nat}{s':St}{sl:List (Nat×AV)}{H':List (Option Blk)}(σ:Src)(hB:shBs s'.heap σ H' σ H':=by simp only[ZZ.down,Nat.reduceEqDiff,reduceCtorEq,Nat.reduceAdd,Nat.reduceLeDiff,Nat.reduceLT,Nat.reduceBNe,EE.down])(hk:keepS 0 (s'.heap.take m) σ H':=by simp only[ZZ.down,Nat.reduceEqDiff,reduceCtorEq,Nat.reduceAdd,Nat.reduceLeDiff,Nat.reduceLT,Nat.reduceBNe,EE.down])(hs:shSl s'.heap σ H' s'.slots sl:=by simp only[ZZ.down,Nat.reduceEqDiff,reduceCtorEq,Nat.reduceAdd,Nat.reduceLeDiff,Nat.reduceLT,Nat.reduceBNe,EE.down])(hn:nodupS σ=true:=by rfl):View n m s' ⟨sl,H'⟩:=View.sh σ ⟨hB,hn,hk⟩ hs
theorem peLt{α:Type}{xs:List α}{j:Int}{y:α}(h:rdI xs j=some y):(j.toNat<xs.length)=True:=eq_true (by obtain⟨a,_,b⟩:=rdI_some h;omega)
theorem eX{n m i:Nat}{Rr:St→Prop}{Rx:Nat→St→Prop}{s':St}{sl:List (Nat×AV)}{H':List (Option Blk)}(σ:Src)(hR:Rx i ⟨sl,H'⟩)(hB:shBs s'.heap σ H' σ H':=by simp only[ZZ.down,Nat.reduceEqDiff,reduceCtorEq,Nat.reduceAdd,Nat.reduceLeDiff,Nat.reduceLT,Nat.reduceBNe,EE.down])(hk:keepS 0 (s'.heap.take m) σ H':=by simp only[ZZ.down,Nat.reduceEqDiff,reduceCtorEq,Nat.reduceAdd,Nat.reduceLeDiff,Nat.reduceLT,Nat.reduceBNe,EE.down])(hs:shSl s'.heap σ H' s'.slots sl:=by simp only[ZZ.down,Nat.reduceEqDiff,reduceCtorEq,Nat.reduceAdd,Nat.reduceLeDiff,Nat.reduceLT,Nat.reduceBNe,EE.down])(hn:nodupS σ=true:=by rfl):xQ n m Rx Rr (.exit i) s':=endX σ ⟨hB,hn,hk⟩ hs hR
theorem eR{n m:Nat}{Rr:St→Prop}{Rx:Nat→St→Prop}{s':St}{sl:List (Nat×AV)}{H':List (Option Blk)}(σ:Src)(hR:Rr ⟨sl,H'⟩)(hB:shBs s'.heap σ H' σ H':=by simp only[ZZ.down,Nat.reduceEqDiff,reduceCtorEq,Nat.reduceAdd,Nat.reduceLeDiff,Nat.reduceLT,Nat.reduceBNe,EE.down])(hk:keepS 0 (s'.heap.take m) σ H':=by simp only[ZZ.down,Nat.reduceEqDiff,reduceCtorEq,Nat.reduceAdd,Nat.reduceLeDiff,Nat.reduceLT,Nat.reduceBNe,EE.down])(hs:shSl s'.heap σ H' s'.slots sl:=by simp only[ZZ.down,Nat.reduceEqDiff,reduceCtorEq,Nat.reduceAdd,Nat.reduceLeDiff,Nat.reduceLT,Nat.reduceBNe,EE.down])(hn:nodupS σ=true:=by rfl):xQ n m Rx Rr .ret s':=endR σ ⟨hB,hn,hk⟩ hs hR
abbrev dI(n:Int):C:= .d (.v (.int .i64 n))
abbrev dS(s:ByteArray):C:= .d (.v (.string s))
abbrev dB(b:Bool):C:= .d (.v (.bool b))
abbrev dN:C:= .d (.v (.slice none 0 0))
abbrev dM(l:List (List D)):C:= .d (.sl l)
abbrev sq(d:Nat)(op:AOp):AStep:=⟨some d,none,op,[],.new []⟩
abbrev su(op:AOp):AStep:=⟨none,none,op,[],.new []⟩
abbrev sd(d:Nat)(op:AOp)(b:List Nat):AStep:=⟨some d,none,op,b,.new []⟩
abbrev zn(d:Nat)(op:AOp)(b l:List Nat):AStep:=⟨some d,none,op,b,.new l⟩
abbrev zl(d:Nat)(op:AOp)(b l:List Nat):AStep:=⟨some d,none,op,b,.lone l⟩
abbrev zg(d g:Nat)(w:Bool)(op:AOp):AStep:=⟨some d,some (g,w),op,[],.new []⟩
theorem ww{p q:Prop}(hq:q)(h:p=q:=by first|(simp only[VW.down,Nat.reduceEqDiff,reduceCtorEq,Nat.reduceAdd,Nat.reduceLeDiff,Nat.reduceLT,Nat.reduceBEq,Nat.reduceSub,EE.down];rfl)|rfl):p:=Eq.mpr h hq
abbrev Qa(d t:Nat):=sq d (.mv (.t t))
abbrev oc(x:C):AV:= .one (.c x)
abbrev Pz(i:Nat):AV:= .one (.c (.pt i 0))
abbrev xb(l:List C):Option Blk:=some (.box l)
abbrev Qb(d f t:Nat):=sq d (.fieldA f (.t t))
abbrev Qc(d n t:Nat):=sq d (.load (some n) (.t t))
abbrev Qd(d t:Nat):=sq d (.load none (.t t))
abbrev Qe(d:Nat)(n:Int):=sq d (.mv (kI n))
abbrev Qf(d:Nat)(b:Bool):=sq d (.mv (kB b))
abbrev Qg(d t:Nat):=sq d (.box (.t t))
abbrev Qh(d t:Nat):=sq d (.len (.t t))
abbrev Qi(d t u:Nat):=sq d (.pick (.t t) (.t u) (kB false))
abbrev Qj(d t u:Nat):=sq d (.pick (.t t) (kB true) (.t u))
abbrev Qk(d f t:Nat):=sq d (.call f [(.t t)])
abbrev Ql(d f t u:Nat):=sq d (.call f [(.t t),(.t u)])
abbrev Qm(d t:Nat)(n:Int):=sq d (.bin .add (.t t) (kI n))
abbrev Qn(d t u:Nat):=sq d (.bin .lss (.t t) (.t u))
abbrev Qo(d t n:Nat):=sq d (.ext (.t t) n)
abbrev Qp(d n t u:Nat):=sq d (.indexA n (.t t) (.t u))
abbrev Qq(d t:Nat):=sq d (.not (.t t))
abbrev Qr(d t:Nat)(n:Int):=sq d (.bin .eql (.t t) (kI n))
abbrev Qs(d g:Nat)(w:Bool)(f t:Nat):=zg d g w (.fieldA f (.t t))
abbrev Qt(d g:Nat)(w:Bool)(t:Nat):=zg d g w (.load none (.t t))
abbrev Qu(d g:Nat)(w:Bool)(n t:Nat):=zg d g w (.load (some n) (.t t))
abbrev Qv(d g:Nat)(w:Bool)(t:Nat):=zg d g w (.mv (.t t))
theorem zc{P:Program}{f:FuncId}(A:AFn){n:Nat}{rvs:List RV}{c:AC}{args:List A1}{H H':List (Option Blk)}{res:List A1}(hf:afn P f=some A.er)(hA:A=⟨n,rvs,c⟩)(h:sK P n H.length c [] (sE H.length rvs res H') ⟨argSlots 0 args,H⟩)(hl:Nat.ble args.length n=true:=by rfl):CallD P f args H (tupV res) H':=by subst hA;exact callS hf (Nat.le_of_ble_eq_true hl) h
theorem bi{α β:Type}{b:β}{x:Option α}{f:α→Option β}(h:x.bind f=some b):∃a,x=some a∧f a=some b:=Option.bind_eq_some_iff.1 h
theorem cN{P:Program}{f:FuncId}{as':List A1}{H H':List (Option Blk)}{res:AV}{as0:List A1}{s:St}{K:Out→Prop}(ρ:List Nat)
 (hc:CallD P f as' H res H') (hH:passAll s.heap (rn ρ s.heap.length) (hp H) 0 H) (hK:K ⟨some (res.ren (rn ρ s.heap.length)),tailWr 0 H' (rn ρ s.heap.length)⟩)
 (has:as0.map nrmA=as'.map (A1.ren (rn ρ s.heap.length)):=by first|rfl|simp[nrmA,nrmC,nrm,A1.ren,C.ren,rn,List.length_set]) (hlive:liveAll (hp H) as':=by simp[liveAll,A1.live,C.live,hp]) (hρ:ρ.length=H.length:=by rfl) (hnd:ρ.Nodup:=by decide):CallX P f as0 s K:=
 callX_n ρ hc has hlive hρ hnd hH hK
section
variable {P:Program} {n m:Nat} {Q:XT→St→Prop} {a b:AC} {k:List Frm} {s:St} {α:Type} {x y:Option α} {r:Option α}
theorem condSh{p:Prop}[Decidable p](h:(if p then x else y)=r)(h1:p→x=r→sK P n m a k Q s)(h0:¬p→y=r→sK P n m b k Q s):sC P n m (decide p) a b k Q s:=
 condS (fun c=>h1 c ((if_pos c).symm.trans h)) fun c=>h0 c ((if_neg c).symm.trans h)
theorem condBh{t:Bool}(h:(if t=true then x else y)=r)(h1:t=true→x=r→sK P n m a k Q s)(h0:¬t=true→y=r→sK P n m b k Q s):sC P n m t a b k Q s:=
 condB (fun c=>h1 c ((if_pos c).symm.trans h)) fun c=>h0 c ((if_neg c).symm.trans h)
end
section
variable {P:Program} {dst:Option Nat} {op:AOp} {bef:List Nat} {lone:Lone} {rr:List AStep} {s:St} {K:St→Prop} {g:Nat} {want:Bool} {hh:List (Option Blk)} {i:Nat} {slots:List (Nat×AV)} {wl:List (Nat×List (Nat×Blk))} {α:Type} {x y:Option α} {r:Option α}
theorem guardSh{p:Prop}[Decidable p](h:(if p then x else y)=r)(h1:p→x=r→sG P true want dst op rr g s K)(h0:¬p→y=r→sG P false want dst op rr g s K):sG P (decide p) want dst op rr g s K:=
 guardS (fun c=>h1 c ((if_pos c).symm.trans h)) fun c=>h0 c ((if_neg c).symm.trans h)
theorem guardSBh{t:Bool}(h:(if t=true then x else y)=r)(h1:t=true→x=r→sG P true want dst op rr g s K)(h0:¬t=true→y=r→sG P false want dst op rr g s K):sG P t want dst op rr g s K:=
 guardSB (fun c=>h1 c ((if_pos c).symm.trans h)) fun c=>h0 c ((if_neg c).symm.trans h)
theorem guardDh{p:Prop}[Decidable p](h:(if p then x else y)=r)(h1:p→x=r→sGD P hh true want dst op bef lone rr i g slots wl K)(h0:¬p→y=r→sGD P hh false want dst op bef lone rr i g slots wl K):sGD P hh (decide p) want dst op bef lone rr i g slots wl K:=
 guardD (fun c=>h1 c ((if_pos c).symm.trans h)) fun c=>h0 c ((if_neg c).symm.trans h)
theorem guardDBh{t:Bool}(h:(if t=true then x else y)=r)(h1:t=true→x=r→sGD P hh true want dst op bef lone rr i g slots wl K)(h0:¬t=true→y=r→sGD P hh false want dst op bef lone rr i g slots wl K):sGD P hh t want dst op bef lone rr i g slots wl K:=
 guardDB (fun c=>h1 c ((if_pos c).symm.trans h)) fun c=>h0 c ((if_neg c).symm.trans h)
end
abbrev bMeta(x:Meta):List C:=[dS x.Kind,dS x.Namespace,dS x.Name,dI x.Uid,dI x.Version,dI x.Generation,dI x.Created,dB x.Deleting,dI x.DeleteAt,dM (x.Labels.map eLabel),dM (x.Owners.map eOwner),dM (x.Finalizers.map eS),dM (x.Managers.map eManager)]
abbrev bRequirement(x:Requirement):List C:=[dS x.Key,dI x.Op,dM (x.Values.map eS)]
abbrev bBudget(x:Budget):List C:=[dS x.Meta.Kind,dS x.Meta.Namespace,dS x.Meta.Name,dI x.Meta.Uid,dI x.Meta.Version,dI x.Meta.Generation,dI x.Meta.Created,dB x.Meta.Deleting,dI x.Meta.DeleteAt,dM (x.Meta.Labels.map eLabel),dM (x.Meta.Owners.map eOwner),dM (x.Meta.Finalizers.map eS),dM (x.Meta.Managers.map eManager),dM (x.Selector.map eRequirement),dM (x.MinAvailable.map eAmount),dM (x.MaxUnavailable.map eAmount),dI x.Observed,dI x.Healthy,dI x.Desired,dI x.Expected,dI x.Allowed,dM (x.Disrupted.map eWorkItem)]
abbrev bPod(x:Pod):List C:=[dS x.Meta.Kind,dS x.Meta.Namespace,dS x.Meta.Name,dI x.Meta.Uid,dI x.Meta.Version,dI x.Meta.Generation,dI x.Meta.Created,dB x.Meta.Deleting,dI x.Meta.DeleteAt,dM (x.Meta.Labels.map eLabel),dM (x.Meta.Owners.map eOwner),dM (x.Meta.Finalizers.map eS),dM (x.Meta.Managers.map eManager),dS x.Spec.Node,dI x.Spec.Priority,dI x.Spec.Restart,dI x.Spec.Grace,dM (x.Spec.Containers.map eContainer),dM (x.Spec.NodeSelector.map eRequirement),dM (x.Spec.NodeTerms.map eNodeTerm),dM (x.Spec.PodTerms.map ePodTerm),dM (x.Spec.Spread.map eSpreadRule),dM (x.Spec.Tolerations.map eToleration),dI x.Status.Phase,dB x.Status.Ready,dI x.Status.ReadySince,dI x.Status.Started,dI x.Status.Finished,dM (x.Status.Containers.map eContainerStatus),dI x.Status.Address,dS x.Status.Nominated,dS x.Status.Reason]
end Go.Proofs.Ytedgocbpegllaaa
