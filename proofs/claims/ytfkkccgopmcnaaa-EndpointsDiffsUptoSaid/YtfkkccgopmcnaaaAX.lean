/- Each Go function as a function over typed data, and its walk. -/
import Derived.Test.YtfkkccgopmcnaaaFE
import Derived.Ground.NamesProg
import Derived.Shelf.Lay
import Derived.KernelRfl
import Derived.Test.YtfkkccgopmcnaaaProg
namespace Go.Proofs.Ytfkkccgopmcnaaa
open Go Go.Fw Go.Shelf
set_option maxRecDepth 100000
set_option maxHeartbeats 4000000
set_option linter.unusedSimpArgs false
set_option linter.unusedVariables false
structure Label where
  Key : ByteArray
  Value : ByteArray
  deriving DecidableEq
def okLabel (x : Label) : Prop := okT x.Key ∧ okT x.Value ∧ True
def wLabel (x : Label) : Nat := wS x.Key + (wS x.Value + 0) + 1
def eLabel (x : Label) : List D := [.v (.string x.Key), .v (.string x.Value)]
structure Owner where
  Kind : ByteArray
  Name : ByteArray
  Uid : Int
  Controller : Bool
  Block : Bool
  deriving DecidableEq
def okOwner (x : Owner) : Prop := okT x.Kind ∧ okT x.Name ∧ okN x.Uid ∧ okT x.Controller ∧ okT x.Block ∧ True
def wOwner (x : Owner) : Nat := wS x.Kind + (wS x.Name + (wN x.Uid + (wN x.Controller + (wN x.Block + 0)))) + 1
def eOwner (x : Owner) : List D := [.v (.string x.Kind), .v (.string x.Name), .v (.int .i64 x.Uid), .v (.bool x.Controller), .v (.bool x.Block)]
structure Manager where
  Name : ByteArray
  Fields : (List ByteArray)
  deriving DecidableEq
def okManager (x : Manager) : Prop := okT x.Name ∧ (okL okT) x.Fields ∧ True
def wManager (x : Manager) : Nat := wS x.Name + ((wL wS) x.Fields + 0) + 1
def eManager (x : Manager) : List D := [.v (.string x.Name), .sl (x.Fields.map eS)]
structure Meta where
  Kind : ByteArray
  Namespace : ByteArray
  Name : ByteArray
  Uid : Int
  Version : Int
  Generation : Int
  Created : Int
  Deleting : Bool
  DeleteAt : Int
  Labels : (List Label)
  Owners : (List Owner)
  Finalizers : (List ByteArray)
  Managers : (List Manager)
  deriving DecidableEq
def okMeta (x : Meta) : Prop := okT x.Kind ∧ okT x.Namespace ∧ okT x.Name ∧ okN x.Uid ∧ okN x.Version ∧ okN x.Generation ∧ okN x.Created ∧ okT x.Deleting ∧ okN x.DeleteAt ∧ (okL okLabel) x.Labels ∧ (okL okOwner) x.Owners ∧ (okL okT) x.Finalizers ∧ (okL okManager) x.Managers ∧ True
def wMeta (x : Meta) : Nat := wS x.Kind + (wS x.Namespace + (wS x.Name + (wN x.Uid + (wN x.Version + (wN x.Generation + (wN x.Created + (wN x.Deleting + (wN x.DeleteAt + ((wL wLabel) x.Labels + ((wL wOwner) x.Owners + ((wL wS) x.Finalizers + ((wL wManager) x.Managers + 0)))))))))))) + 1
def eMeta (x : Meta) : List D := [.v (.string x.Kind), .v (.string x.Namespace), .v (.string x.Name), .v (.int .i64 x.Uid), .v (.int .i64 x.Version), .v (.int .i64 x.Generation), .v (.int .i64 x.Created), .v (.bool x.Deleting), .v (.int .i64 x.DeleteAt), .sl (x.Labels.map eLabel), .sl (x.Owners.map eOwner), .sl (x.Finalizers.map eS), .sl (x.Managers.map eManager)]
structure Resources where
  CPU : Int
  Memory : Int
  Disk : Int
  deriving DecidableEq
def okResources (x : Resources) : Prop := okN x.CPU ∧ okN x.Memory ∧ okN x.Disk ∧ True
def wResources (x : Resources) : Nat := wN x.CPU + (wN x.Memory + (wN x.Disk + 0)) + 1
def eResources (x : Resources) : List D := [.v (.int .i64 x.CPU), .v (.int .i64 x.Memory), .v (.int .i64 x.Disk)]
structure Probe where
  Delay : Int
  Period : Int
  Success : Int
  Failure : Int
  deriving DecidableEq
def okProbe (x : Probe) : Prop := okN x.Delay ∧ okN x.Period ∧ okN x.Success ∧ okN x.Failure ∧ True
def wProbe (x : Probe) : Nat := wN x.Delay + (wN x.Period + (wN x.Success + (wN x.Failure + 0))) + 1
def eProbe (x : Probe) : List D := [.v (.int .i64 x.Delay), .v (.int .i64 x.Period), .v (.int .i64 x.Success), .v (.int .i64 x.Failure)]
structure Container where
  Name : ByteArray
  Image : ByteArray
  Request : Resources
  Limit : Resources
  Live : (List Probe)
  Ready : (List Probe)
  Startup : (List Probe)
  deriving DecidableEq
def okContainer (x : Container) : Prop := okT x.Name ∧ okT x.Image ∧ okResources x.Request ∧ okResources x.Limit ∧ (okL okProbe) x.Live ∧ (okL okProbe) x.Ready ∧ (okL okProbe) x.Startup ∧ True
def wContainer (x : Container) : Nat := wS x.Name + (wS x.Image + (wResources x.Request + (wResources x.Limit + ((wL wProbe) x.Live + ((wL wProbe) x.Ready + ((wL wProbe) x.Startup + 0)))))) + 1
def eContainer (x : Container) : List D := [.v (.string x.Name), .v (.string x.Image), .v (.int .i64 x.Request.CPU), .v (.int .i64 x.Request.Memory), .v (.int .i64 x.Request.Disk), .v (.int .i64 x.Limit.CPU), .v (.int .i64 x.Limit.Memory), .v (.int .i64 x.Limit.Disk), .sl (x.Live.map eProbe), .sl (x.Ready.map eProbe), .sl (x.Startup.map eProbe)]
structure Requirement where
  Key : ByteArray
  Op : Int
  Values : (List ByteArray)
  deriving DecidableEq
def okRequirement (x : Requirement) : Prop := okT x.Key ∧ okN x.Op ∧ (okL okT) x.Values ∧ True
def wRequirement (x : Requirement) : Nat := wS x.Key + (wN x.Op + ((wL wS) x.Values + 0)) + 1
def eRequirement (x : Requirement) : List D := [.v (.string x.Key), .v (.int .i64 x.Op), .sl (x.Values.map eS)]
structure NodeTerm where
  Required : Bool
  Selector : (List Requirement)
  Weight : Int
  deriving DecidableEq
def okNodeTerm (x : NodeTerm) : Prop := okT x.Required ∧ (okL okRequirement) x.Selector ∧ okN x.Weight ∧ True
def wNodeTerm (x : NodeTerm) : Nat := wN x.Required + ((wL wRequirement) x.Selector + (wN x.Weight + 0)) + 1
def eNodeTerm (x : NodeTerm) : List D := [.v (.bool x.Required), .sl (x.Selector.map eRequirement), .v (.int .i64 x.Weight)]
structure PodTerm where
  Required : Bool
  Anti : Bool
  Selector : (List Requirement)
  Topology : ByteArray
  Weight : Int
  deriving DecidableEq
def okPodTerm (x : PodTerm) : Prop := okT x.Required ∧ okT x.Anti ∧ (okL okRequirement) x.Selector ∧ okT x.Topology ∧ okN x.Weight ∧ True
def wPodTerm (x : PodTerm) : Nat := wN x.Required + (wN x.Anti + ((wL wRequirement) x.Selector + (wS x.Topology + (wN x.Weight + 0)))) + 1
def ePodTerm (x : PodTerm) : List D := [.v (.bool x.Required), .v (.bool x.Anti), .sl (x.Selector.map eRequirement), .v (.string x.Topology), .v (.int .i64 x.Weight)]
structure SpreadRule where
  MaxSkew : Int
  Topology : ByteArray
  Selector : (List Requirement)
  Required : Bool
  deriving DecidableEq
def okSpreadRule (x : SpreadRule) : Prop := okN x.MaxSkew ∧ okT x.Topology ∧ (okL okRequirement) x.Selector ∧ okT x.Required ∧ True
def wSpreadRule (x : SpreadRule) : Nat := wN x.MaxSkew + (wS x.Topology + ((wL wRequirement) x.Selector + (wN x.Required + 0))) + 1
def eSpreadRule (x : SpreadRule) : List D := [.v (.int .i64 x.MaxSkew), .v (.string x.Topology), .sl (x.Selector.map eRequirement), .v (.bool x.Required)]
structure Toleration where
  Key : ByteArray
  Value : ByteArray
  Exists : Bool
  Effect : Int
  Seconds : Int
  deriving DecidableEq
def okToleration (x : Toleration) : Prop := okT x.Key ∧ okT x.Value ∧ okT x.Exists ∧ okN x.Effect ∧ okN x.Seconds ∧ True
def wToleration (x : Toleration) : Nat := wS x.Key + (wS x.Value + (wN x.Exists + (wN x.Effect + (wN x.Seconds + 0)))) + 1
def eToleration (x : Toleration) : List D := [.v (.string x.Key), .v (.string x.Value), .v (.bool x.Exists), .v (.int .i64 x.Effect), .v (.int .i64 x.Seconds)]
structure PodSpec where
  Node : ByteArray
  Priority : Int
  Restart : Int
  Grace : Int
  Containers : (List Container)
  NodeSelector : (List Requirement)
  NodeTerms : (List NodeTerm)
  PodTerms : (List PodTerm)
  Spread : (List SpreadRule)
  Tolerations : (List Toleration)
  deriving DecidableEq
def okPodSpec (x : PodSpec) : Prop := okT x.Node ∧ okN x.Priority ∧ okN x.Restart ∧ okN x.Grace ∧ (okL okContainer) x.Containers ∧ (okL okRequirement) x.NodeSelector ∧ (okL okNodeTerm) x.NodeTerms ∧ (okL okPodTerm) x.PodTerms ∧ (okL okSpreadRule) x.Spread ∧ (okL okToleration) x.Tolerations ∧ True
def wPodSpec (x : PodSpec) : Nat := wS x.Node + (wN x.Priority + (wN x.Restart + (wN x.Grace + ((wL wContainer) x.Containers + ((wL wRequirement) x.NodeSelector + ((wL wNodeTerm) x.NodeTerms + ((wL wPodTerm) x.PodTerms + ((wL wSpreadRule) x.Spread + ((wL wToleration) x.Tolerations + 0))))))))) + 1
def ePodSpec (x : PodSpec) : List D := [.v (.string x.Node), .v (.int .i64 x.Priority), .v (.int .i64 x.Restart), .v (.int .i64 x.Grace), .sl (x.Containers.map eContainer), .sl (x.NodeSelector.map eRequirement), .sl (x.NodeTerms.map eNodeTerm), .sl (x.PodTerms.map ePodTerm), .sl (x.Spread.map eSpreadRule), .sl (x.Tolerations.map eToleration)]
structure ContainerStatus where
  Name : ByteArray
  State : Int
  Restarts : Int
  ExitCode : Int
  Since : Int
  Ready : Bool
  Started : Bool
  deriving DecidableEq
def okContainerStatus (x : ContainerStatus) : Prop := okT x.Name ∧ okN x.State ∧ okN x.Restarts ∧ okN x.ExitCode ∧ okN x.Since ∧ okT x.Ready ∧ okT x.Started ∧ True
def wContainerStatus (x : ContainerStatus) : Nat := wS x.Name + (wN x.State + (wN x.Restarts + (wN x.ExitCode + (wN x.Since + (wN x.Ready + (wN x.Started + 0)))))) + 1
def eContainerStatus (x : ContainerStatus) : List D := [.v (.string x.Name), .v (.int .i64 x.State), .v (.int .i64 x.Restarts), .v (.int .i64 x.ExitCode), .v (.int .i64 x.Since), .v (.bool x.Ready), .v (.bool x.Started)]
structure PodStatus where
  Phase : Int
  Ready : Bool
  ReadySince : Int
  Started : Int
  Finished : Int
  Containers : (List ContainerStatus)
  Address : Int
  Nominated : ByteArray
  Reason : ByteArray
  deriving DecidableEq
def okPodStatus (x : PodStatus) : Prop := okN x.Phase ∧ okT x.Ready ∧ okN x.ReadySince ∧ okN x.Started ∧ okN x.Finished ∧ (okL okContainerStatus) x.Containers ∧ okN x.Address ∧ okT x.Nominated ∧ okT x.Reason ∧ True
def wPodStatus (x : PodStatus) : Nat := wN x.Phase + (wN x.Ready + (wN x.ReadySince + (wN x.Started + (wN x.Finished + ((wL wContainerStatus) x.Containers + (wN x.Address + (wS x.Nominated + (wS x.Reason + 0)))))))) + 1
def ePodStatus (x : PodStatus) : List D := [.v (.int .i64 x.Phase), .v (.bool x.Ready), .v (.int .i64 x.ReadySince), .v (.int .i64 x.Started), .v (.int .i64 x.Finished), .sl (x.Containers.map eContainerStatus), .v (.int .i64 x.Address), .v (.string x.Nominated), .v (.string x.Reason)]
structure Pod where
  Meta : Meta
  Spec : PodSpec
  Status : PodStatus
  deriving DecidableEq
def okPod (x : Pod) : Prop := okMeta x.Meta ∧ okPodSpec x.Spec ∧ okPodStatus x.Status ∧ True
def wPod (x : Pod) : Nat := wMeta x.Meta + (wPodSpec x.Spec + (wPodStatus x.Status + 0)) + 1
def ePod (x : Pod) : List D := [.v (.string x.Meta.Kind), .v (.string x.Meta.Namespace), .v (.string x.Meta.Name), .v (.int .i64 x.Meta.Uid), .v (.int .i64 x.Meta.Version), .v (.int .i64 x.Meta.Generation), .v (.int .i64 x.Meta.Created), .v (.bool x.Meta.Deleting), .v (.int .i64 x.Meta.DeleteAt), .sl (x.Meta.Labels.map eLabel), .sl (x.Meta.Owners.map eOwner), .sl (x.Meta.Finalizers.map eS), .sl (x.Meta.Managers.map eManager), .v (.string x.Spec.Node), .v (.int .i64 x.Spec.Priority), .v (.int .i64 x.Spec.Restart), .v (.int .i64 x.Spec.Grace), .sl (x.Spec.Containers.map eContainer), .sl (x.Spec.NodeSelector.map eRequirement), .sl (x.Spec.NodeTerms.map eNodeTerm), .sl (x.Spec.PodTerms.map ePodTerm), .sl (x.Spec.Spread.map eSpreadRule), .sl (x.Spec.Tolerations.map eToleration), .v (.int .i64 x.Status.Phase), .v (.bool x.Status.Ready), .v (.int .i64 x.Status.ReadySince), .v (.int .i64 x.Status.Started), .v (.int .i64 x.Status.Finished), .sl (x.Status.Containers.map eContainerStatus), .v (.int .i64 x.Status.Address), .v (.string x.Status.Nominated), .v (.string x.Status.Reason)]
structure ServicePort where
  Name : ByteArray
  Port : Int
  Target : Int
  deriving DecidableEq
def okServicePort (x : ServicePort) : Prop := okT x.Name ∧ okN x.Port ∧ okN x.Target ∧ True
def wServicePort (x : ServicePort) : Nat := wS x.Name + (wN x.Port + (wN x.Target + 0)) + 1
def eServicePort (x : ServicePort) : List D := [.v (.string x.Name), .v (.int .i64 x.Port), .v (.int .i64 x.Target)]
structure Service where
  Meta : Meta
  Selector : (List Requirement)
  Ports : (List ServicePort)
  Sticky : Bool
  Address : Int
  deriving DecidableEq
def okService (x : Service) : Prop := okMeta x.Meta ∧ (okL okRequirement) x.Selector ∧ (okL okServicePort) x.Ports ∧ okT x.Sticky ∧ okN x.Address ∧ True
def wService (x : Service) : Nat := wMeta x.Meta + ((wL wRequirement) x.Selector + ((wL wServicePort) x.Ports + (wN x.Sticky + (wN x.Address + 0)))) + 1
def eService (x : Service) : List D := [.v (.string x.Meta.Kind), .v (.string x.Meta.Namespace), .v (.string x.Meta.Name), .v (.int .i64 x.Meta.Uid), .v (.int .i64 x.Meta.Version), .v (.int .i64 x.Meta.Generation), .v (.int .i64 x.Meta.Created), .v (.bool x.Meta.Deleting), .v (.int .i64 x.Meta.DeleteAt), .sl (x.Meta.Labels.map eLabel), .sl (x.Meta.Owners.map eOwner), .sl (x.Meta.Finalizers.map eS), .sl (x.Meta.Managers.map eManager), .sl (x.Selector.map eRequirement), .sl (x.Ports.map eServicePort), .v (.bool x.Sticky), .v (.int .i64 x.Address)]
structure Endpoint where
  Pod : ByteArray
  Node : ByteArray
  Address : Int
  Ready : Bool
  Terminating : Bool
  deriving DecidableEq
def okEndpoint (x : Endpoint) : Prop := okT x.Pod ∧ okT x.Node ∧ okN x.Address ∧ okT x.Ready ∧ okT x.Terminating ∧ True
def wEndpoint (x : Endpoint) : Nat := wS x.Pod + (wS x.Node + (wN x.Address + (wN x.Ready + (wN x.Terminating + 0)))) + 1
def eEndpoint (x : Endpoint) : List D := [.v (.string x.Pod), .v (.string x.Node), .v (.int .i64 x.Address), .v (.bool x.Ready), .v (.bool x.Terminating)]
structure EndpointSet where
  Meta : Meta
  Ports : (List ServicePort)
  Items : (List Endpoint)
  deriving DecidableEq
def okEndpointSet (x : EndpointSet) : Prop := okMeta x.Meta ∧ (okL okServicePort) x.Ports ∧ (okL okEndpoint) x.Items ∧ True
def wEndpointSet (x : EndpointSet) : Nat := wMeta x.Meta + ((wL wServicePort) x.Ports + ((wL wEndpoint) x.Items + 0)) + 1
def eEndpointSet (x : EndpointSet) : List D := [.v (.string x.Meta.Kind), .v (.string x.Meta.Namespace), .v (.string x.Meta.Name), .v (.int .i64 x.Meta.Uid), .v (.int .i64 x.Meta.Version), .v (.int .i64 x.Meta.Generation), .v (.int .i64 x.Meta.Created), .v (.bool x.Meta.Deleting), .v (.int .i64 x.Meta.DeleteAt), .sl (x.Meta.Labels.map eLabel), .sl (x.Meta.Owners.map eOwner), .sl (x.Meta.Finalizers.map eS), .sl (x.Meta.Managers.map eManager), .sl (x.Ports.map eServicePort), .sl (x.Items.map eEndpoint)]
def EE := PLift.up (And.intro (And.intro (And.intro (And.intro @eI.eq_1 (And.intro @eB.eq_1 @eS.eq_1)) (And.intro @eK.eq_1 (And.intro @eL.eq_1 @eLabel.eq_1))) (And.intro (And.intro @eOwner.eq_1 (And.intro @eManager.eq_1 @eMeta.eq_1)) (And.intro @eResources.eq_1 (And.intro @eProbe.eq_1 @eContainer.eq_1)))) (And.intro (And.intro (And.intro @eRequirement.eq_1 (And.intro @eNodeTerm.eq_1 @ePodTerm.eq_1)) (And.intro @eSpreadRule.eq_1 (And.intro @eToleration.eq_1 @ePodSpec.eq_1))) (And.intro (And.intro @eContainerStatus.eq_1 (And.intro @ePodStatus.eq_1 @ePod.eq_1)) (And.intro (And.intro @eServicePort.eq_1 @eService.eq_1) (And.intro @eEndpoint.eq_1 @eEndpointSet.eq_1)))))
theorem eM {n m : Nat} {Q : XT → St → Prop} {R : St → Prop} {s' : St} {sl : List (Nat × AV)} {H' : List (Option Blk)} (σ : Src) (hR : R ⟨sl, H'⟩) (hB : shBs s'.heap σ H' σ H' := by simp only [ZZ.down, Nat.reduceEqDiff, reduceCtorEq, Nat.reduceAdd, Nat.reduceLeDiff, Nat.reduceLT, Nat.reduceBNe, EE.down]) (hk : keepS 0 (s'.heap.take m) σ H' := by simp only [ZZ.down, Nat.reduceEqDiff, reduceCtorEq, Nat.reduceAdd, Nat.reduceLeDiff, Nat.reduceLT, Nat.reduceBNe, EE.down]) (hs : shSl s'.heap σ H' s'.slots sl := by simp only [ZZ.down, Nat.reduceEqDiff, reduceCtorEq, Nat.reduceAdd, Nat.reduceLeDiff, Nat.reduceLT, Nat.reduceBNe, EE.down]) (hn : nodupS σ = true := by rfl) : sM n m R Q .normal s' := endM σ ⟨hB, hn, hk⟩ hs hR
theorem eL' {n m : Nat} {Q : XT → St → Prop} {I : Nat → St → Prop} {j : Nat} (k' : Nat) {s' : St} {sl : List (Nat × AV)} {H' : List (Option Blk)} (σ : Src) (hI : I k' ⟨sl, H'⟩) (hj : k' < j) (hB : shBs s'.heap σ H' σ H' := by simp only [ZZ.down, Nat.reduceEqDiff, reduceCtorEq, Nat.reduceAdd, Nat.reduceLeDiff, Nat.reduceLT, Nat.reduceBNe, EE.down]) (hk : keepS 0 (s'.heap.take m) σ H' := by simp only [ZZ.down, Nat.reduceEqDiff, reduceCtorEq, Nat.reduceAdd, Nat.reduceLeDiff, Nat.reduceLT, Nat.reduceBNe, EE.down]) (hs : shSl s'.heap σ H' s'.slots sl := by simp only [ZZ.down, Nat.reduceEqDiff, reduceCtorEq, Nat.reduceAdd, Nat.reduceLeDiff, Nat.reduceLT, Nat.reduceBNe, EE.down]) (hn : nodupS σ = true := by rfl) : sL n m I j Q .normal s' := endL k' hj σ ⟨hB, hn, hk⟩ hs hI
theorem bL {P : Program} {n m : Nat} {Q : XT → St → Prop} {s : St} {k : List Frm} {body : AC} (I : Nat → St → Prop) (k0 : Nat) {sl : List (Nat × AV)} {H' : List (Option Blk)} (σ : Src) (hI : I k0 ⟨sl, H'⟩) (hr : ∀ j s, I j s → sK P n m body [] (sL n m I j (sU P n m k Q)) s) (hB : shBs s.heap σ H' σ H' := by simp only [ZZ.down, Nat.reduceEqDiff, reduceCtorEq, Nat.reduceAdd, Nat.reduceLeDiff, Nat.reduceLT, Nat.reduceBNe, EE.down]) (hk : keepS 0 (s.heap.take m) σ H' := by simp only [ZZ.down, Nat.reduceEqDiff, reduceCtorEq, Nat.reduceAdd, Nat.reduceLeDiff, Nat.reduceLT, Nat.reduceBNe, EE.down]) (hs : shSl s.heap σ H' s.slots sl := by simp only [ZZ.down, Nat.reduceEqDiff, reduceCtorEq, Nat.reduceAdd, Nat.reduceLeDiff, Nat.reduceLT, Nat.reduceBNe, EE.down]) (hn : nodupS σ = true := by rfl) : WpC P n m (.loop body) (sU P n m k Q) s := begL I k0 σ ⟨hB, hn, hk⟩ hs hI hr
theorem eF {m : Nat} {h : List (Option Blk)} {l res : List A1} {H' : List (Option Blk)} (σ : Src) (hB : shBs h σ H' σ H' := by simp only [ZZ.down, Nat.reduceEqDiff, reduceCtorEq, Nat.reduceAdd, Nat.reduceLeDiff, Nat.reduceLT, Nat.reduceBNe, EE.down]) (hk : keepS 0 (h.take m) σ H' := by simp only [ZZ.down, Nat.reduceEqDiff, reduceCtorEq, Nat.reduceAdd, Nat.reduceLeDiff, Nat.reduceLT, Nat.reduceBNe, EE.down]) (hs : shAs h σ H' res l := by simp only [ZZ.down, Nat.reduceEqDiff, reduceCtorEq, Nat.reduceAdd, Nat.reduceLeDiff, Nat.reduceLT, Nat.reduceBNe, EE.down]) (hn : nodupS σ = true := by rfl) : Fin m h l res H' := fin_sh σ ⟨hB, hn, hk⟩ hs
abbrev sq (d : Nat) (op : AOp) : AStep := ⟨some d, none, op, [], .new []⟩
abbrev su (op : AOp) : AStep := ⟨none, none, op, [], .new []⟩
abbrev sd (d : Nat) (op : AOp) (b : List Nat) : AStep := ⟨some d, none, op, b, .new []⟩
theorem ww {p q : Prop} (hq : q) (h : p = q := by first | (simp only [VW.down, Nat.reduceEqDiff, reduceCtorEq, Nat.reduceAdd, Nat.reduceLeDiff, Nat.reduceLT, Nat.reduceBEq, Nat.reduceSub, EE.down]; rfl) | rfl) : p := Eq.mpr h hq
theorem bi {α β : Type} {b : β} {x : Option α} {f : α → Option β} (h : x.bind f = some b) : ∃ a, x = some a ∧ f a = some b := Option.bind_eq_some_iff.1 h
theorem cN {P : Program} {f : FuncId} {as' : List A1} {H H' : List (Option Blk)} {res : AV} {as0 : List A1} {s : St} {K : Out → Prop} (ρ : List Nat)
    (hc : CallD P f as' H res H') (hH : passAll s.heap (rn ρ s.heap.length) (hp H) 0 H) (hK : K ⟨some (res.ren (rn ρ s.heap.length)), tailWr 0 H' (rn ρ s.heap.length)⟩)
    (has : as0.map nrmA = as'.map (A1.ren (rn ρ s.heap.length)) := by first | rfl | simp [nrmA, nrmC, nrm, A1.ren, C.ren, rn, List.length_set]) (hlive : liveAll (hp H) as' := by simp [liveAll, A1.live, C.live, hp]) (hρ : ρ.length = H.length := by rfl) (hnd : ρ.Nodup := by decide) : CallX P f as0 s K :=
  callX_n ρ hc has hlive hρ hnd hH hK
section
variable {P : Program} {n m : Nat} {Q : XT → St → Prop} {a b : AC} {k : List Frm} {s : St} {α : Type} {x y : Option α} {r : Option α}
theorem condSh {p : Prop} [Decidable p] (h : (if p then x else y) = r) (h1 : p → x = r → sK P n m a k Q s) (h0 : ¬ p → y = r → sK P n m b k Q s) : sC P n m (decide p) a b k Q s :=
  condS (fun c => h1 c ((if_pos c).symm.trans h)) fun c => h0 c ((if_neg c).symm.trans h)
theorem condBh {t : Bool} (h : (if t = true then x else y) = r) (h1 : t = true → x = r → sK P n m a k Q s) (h0 : ¬ t = true → y = r → sK P n m b k Q s) : sC P n m t a b k Q s :=
  condB (fun c => h1 c ((if_pos c).symm.trans h)) fun c => h0 c ((if_neg c).symm.trans h)
end
section
variable {P : Program} {dst : Option Nat} {op : AOp} {bef : List Nat} {lone : Lone} {rr : List AStep} {s : St} {K : St → Prop} {g : Nat} {want : Bool} {hh : List (Option Blk)} {i : Nat} {slots : List (Nat × AV)} {wl : List (Nat × List (Nat × Blk))} {α : Type} {x y : Option α} {r : Option α}
theorem guardSh {p : Prop} [Decidable p] (h : (if p then x else y) = r) (h1 : p → x = r → sG P true want dst op rr g s K) (h0 : ¬ p → y = r → sG P false want dst op rr g s K) : sG P (decide p) want dst op rr g s K :=
  guardS (fun c => h1 c ((if_pos c).symm.trans h)) fun c => h0 c ((if_neg c).symm.trans h)
theorem guardSBh {t : Bool} (h : (if t = true then x else y) = r) (h1 : t = true → x = r → sG P true want dst op rr g s K) (h0 : ¬ t = true → y = r → sG P false want dst op rr g s K) : sG P t want dst op rr g s K :=
  guardSB (fun c => h1 c ((if_pos c).symm.trans h)) fun c => h0 c ((if_neg c).symm.trans h)
theorem guardDh {p : Prop} [Decidable p] (h : (if p then x else y) = r) (h1 : p → x = r → sGD P hh true want dst op bef lone rr i g slots wl K) (h0 : ¬ p → y = r → sGD P hh false want dst op bef lone rr i g slots wl K) : sGD P hh (decide p) want dst op bef lone rr i g slots wl K :=
  guardD (fun c => h1 c ((if_pos c).symm.trans h)) fun c => h0 c ((if_neg c).symm.trans h)
theorem guardDBh {t : Bool} (h : (if t = true then x else y) = r) (h1 : t = true → x = r → sGD P hh true want dst op bef lone rr i g slots wl K) (h0 : ¬ t = true → y = r → sGD P hh false want dst op bef lone rr i g slots wl K) : sGD P hh t want dst op bef lone rr i g slots wl K :=
  guardDB (fun c => h1 c ((if_pos c).symm.trans h)) fun c => h0 c ((if_neg c).symm.trans h)
end


/- orchestrator/orchestratorlaw55.pod -/
def F23 (x0 : ByteArray) (x1 : ByteArray) (x2 : Int) : Option (Unit) := some (())
def a23 : AFn := ⟨22, [(.cell 6 (some 32))],
 (.seq (.reg [⟨(some 6), none, .zbox [.d (.v (.string ⟨#[]⟩)), .d (.v (.string ⟨#[]⟩)), .d (.v (.string ⟨#[]⟩)), .d (.v (.int .i64 0)), .d (.v (.int .i64 0)), .d (.v (.int .i64 0)), .d (.v (.int .i64 0)), .d (.v (.bool false)), .d (.v (.int .i64 0)), .d (.v (.slice none 0 0)), .d (.v (.slice none 0 0)), .d (.v (.slice none 0 0)), .d (.v (.slice none 0 0)), .d (.v (.string ⟨#[]⟩)), .d (.v (.int .i64 0)), .d (.v (.int .i64 0)), .d (.v (.int .i64 0)), .d (.v (.slice none 0 0)), .d (.v (.slice none 0 0)), .d (.v (.slice none 0 0)), .d (.v (.slice none 0 0)), .d (.v (.slice none 0 0)), .d (.v (.slice none 0 0)), .d (.v (.int .i64 0)), .d (.v (.bool false)), .d (.v (.int .i64 0)), .d (.v (.int .i64 0)), .d (.v (.int .i64 0)), .d (.v (.slice none 0 0)), .d (.v (.int .i64 0)), .d (.v (.string ⟨#[]⟩)), .d (.v (.string ⟨#[]⟩))], [], (.lone [])⟩])
 (.seq (.reg [sq 8 (.mv (.t 0)),
sq 9 (.mv (.t 1)),
sq 10 (.build [.d (.v (.string ⟨#[]⟩)), .d (.v (.string ⟨#[]⟩))] [(0, 1, (kS ⟨#[97, 112, 112]⟩)), (1, 1, (.t 9))]),
sq 11 (.bslice 2 [(.t 10)]),
sq 12 (.build [.d (.v (.string ⟨#[]⟩)), .d (.v (.string ⟨#[]⟩)), .d (.v (.string ⟨#[]⟩)), .d (.v (.int .i64 0)), .d (.v (.int .i64 0)), .d (.v (.int .i64 0)), .d (.v (.int .i64 0)), .d (.v (.bool false)), .d (.v (.int .i64 0)), .d (.v (.slice none 0 0)), .d (.v (.slice none 0 0)), .d (.v (.slice none 0 0)), .d (.v (.slice none 0 0))] [(0, 1, (kS ⟨#[80, 111, 100]⟩)), (1, 1, (kS ⟨#[110]⟩)), (2, 1, (.t 8)), (9, 1, (.t 11))]),
sq 13 (.build [.d (.v (.string ⟨#[]⟩)), .d (.v (.string ⟨#[]⟩)), .d (.v (.string ⟨#[]⟩)), .d (.v (.int .i64 0)), .d (.v (.int .i64 0)), .d (.v (.int .i64 0)), .d (.v (.int .i64 0)), .d (.v (.bool false)), .d (.v (.int .i64 0)), .d (.v (.slice none 0 0)), .d (.v (.slice none 0 0)), .d (.v (.slice none 0 0)), .d (.v (.slice none 0 0)), .d (.v (.string ⟨#[]⟩)), .d (.v (.int .i64 0)), .d (.v (.int .i64 0)), .d (.v (.int .i64 0)), .d (.v (.slice none 0 0)), .d (.v (.slice none 0 0)), .d (.v (.slice none 0 0)), .d (.v (.slice none 0 0)), .d (.v (.slice none 0 0)), .d (.v (.slice none 0 0)), .d (.v (.int .i64 0)), .d (.v (.bool false)), .d (.v (.int .i64 0)), .d (.v (.int .i64 0)), .d (.v (.int .i64 0)), .d (.v (.slice none 0 0)), .d (.v (.int .i64 0)), .d (.v (.string ⟨#[]⟩)), .d (.v (.string ⟨#[]⟩))] [(0, 13, (.t 12))]),
sq 7 (.zbox [.d (.v (.string ⟨#[]⟩)), .d (.v (.string ⟨#[]⟩)), .d (.v (.string ⟨#[]⟩)), .d (.v (.int .i64 0)), .d (.v (.int .i64 0)), .d (.v (.int .i64 0)), .d (.v (.int .i64 0)), .d (.v (.bool false)), .d (.v (.int .i64 0)), .d (.v (.slice none 0 0)), .d (.v (.slice none 0 0)), .d (.v (.slice none 0 0)), .d (.v (.slice none 0 0)), .d (.v (.string ⟨#[]⟩)), .d (.v (.int .i64 0)), .d (.v (.int .i64 0)), .d (.v (.int .i64 0)), .d (.v (.slice none 0 0)), .d (.v (.slice none 0 0)), .d (.v (.slice none 0 0)), .d (.v (.slice none 0 0)), .d (.v (.slice none 0 0)), .d (.v (.slice none 0 0)), .d (.v (.int .i64 0)), .d (.v (.bool false)), .d (.v (.int .i64 0)), .d (.v (.int .i64 0)), .d (.v (.int .i64 0)), .d (.v (.slice none 0 0)), .d (.v (.int .i64 0)), .d (.v (.string ⟨#[]⟩)), .d (.v (.string ⟨#[]⟩))]),
su (.store 32 (.t 7) (.t 13))])
 (.seq (.reg [sq 14 (.fieldA 23 (.t 7)),
sq 15 (.fieldA 0 (.t 14)),
⟨none, none, .store 1 (.t 15) (kI 1), [], (.lone [7, 14])⟩])
 (.seq (.reg [sq 16 (.fieldA 23 (.t 7)),
sq 17 (.fieldA 1 (.t 16)),
⟨none, none, .store 1 (.t 17) (kB true), [], (.lone [7, 16])⟩])
 (.seq (.reg [sq 18 (.mv (.t 2)),
sq 19 (.fieldA 23 (.t 7)),
sq 20 (.fieldA 6 (.t 19)),
⟨none, none, .store 1 (.t 20) (.t 18), [], (.lone [7, 19])⟩])
 (.seq (.reg [sq 21 (.load (some 32) (.t 7)),
⟨none, none, .store 32 (.t 6) (.t 21), [], (.lone [7])⟩])
 .ret))))))⟩
theorem a23_ok : afn Try.prog 23 = some a23.er := by kernel_rfl
theorem F23_ok {x0 : ByteArray} {x1 : ByteArray} {x2 : Int} {r : Unit} (h : F23 x0 x1 x2 = some r) : CallD Try.prog 23 [.c (.d (.v (.string x0))), .c (.d (.v (.string x1))), .c (.d (.v (.int .i64 x2)))] [] (tupV [.agg [.d (.v (.string ((⟨#[80, 111, 100]⟩ : ByteArray)))), .d (.v (.string ((⟨#[110]⟩ : ByteArray)))), .d (.v (.string x0)), .d (.v (.int .i64 0)), .d (.v (.int .i64 0)), .d (.v (.int .i64 0)), .d (.v (.int .i64 0)), .d (.v (.bool false)), .d (.v (.int .i64 0)), .own 0 0 0 (([(⟨(⟨#[97, 112, 112]⟩ : ByteArray), x1⟩ : Label)]).length) none, .d (.sl (([] : List Owner).map eOwner)), .d (.sl (([] : List ByteArray).map eS)), .d (.sl (([] : List Manager).map eManager)), .d (.v (.string ((⟨#[]⟩ : ByteArray)))), .d (.v (.int .i64 0)), .d (.v (.int .i64 0)), .d (.v (.int .i64 0)), .d (.sl (([] : List Container).map eContainer)), .d (.sl (([] : List Requirement).map eRequirement)), .d (.sl (([] : List NodeTerm).map eNodeTerm)), .d (.sl (([] : List PodTerm).map ePodTerm)), .d (.sl (([] : List SpreadRule).map eSpreadRule)), .d (.sl (([] : List Toleration).map eToleration)), .d (.v (.int .i64 1)), .d (.v (.bool true)), .d (.v (.int .i64 0)), .d (.v (.int .i64 0)), .d (.v (.int .i64 0)), .d (.sl (([] : List ContainerStatus).map eContainerStatus)), .d (.v (.int .i64 x2)), .d (.v (.string ((⟨#[]⟩ : ByteArray)))), .d (.v (.string ((⟨#[]⟩ : ByteArray))))]]) [some (.arr 0 2 (([(⟨(⟨#[97, 112, 112]⟩ : ByteArray), x1⟩ : Label)]).map eLabel))] := by
 refine callS a23_ok (by simp [a23]) ?_
 rw [F23] at h
 simp only [a23, VW.down, Nat.reduceEqDiff, reduceCtorEq, Nat.reduceAdd, Nat.reduceLeDiff, Nat.reduceLT, Nat.reduceBEq, Nat.reduceSub, EE.down]
 refine t_bslice (enc := eLabel) (ys := [(⟨(⟨#[97, 112, 112]⟩ : ByteArray), x1⟩ : Label)]) rfl rfl (by simp [A1.cells]) (by first | rfl | (simp only [List.drop_zero, take_mapL]; rfl) | (simp only [lit, List.map_cons, List.map_nil, List.drop_zero, take_mapL, EE.down]; done) | (simp only [lit, List.map_cons, List.map_nil, List.drop_zero, take_mapL, EE.down]; rfl)) ?_
 refine ww ?_
 obtain rfl := Option.some.inj h
 exact eF [some 1]

/- slices.Clone[[]orchestrator/api.ServicePort,orchestrator/api.ServicePort] -/
theorem a24_ok : afn Try.prog 24 = some (cloneA 3 32) := by kernel_rfl
theorem F24_ok {x0 r : List ServicePort} (h : cloneI x0 = some r) : CallD Try.prog 24 [.c (.d (.sl (x0.map eServicePort)))] [] (tupV [.c (.own 0 1 0 r.length none)]) [some (.arr 1 3 (r.map eServicePort))] := L_clone a24_ok (fun _ => rfl) h

/- orchestrator/label.Get -/
def F73_l1 (x1 : ByteArray) : List Label → Nat → Option ((ByteArray × Bool) ⊕ (Unit))
  | [], o1_0 => some (Sum.inr (()))
  | xo1 :: xs, o1_0 => (if xo1.Key = x1 then (some ((xo1.Value, true))).map Sum.inl else F73_l1 x1 xs (o1_0 + 1))
def F73 (x0 : (List Label)) (x1 : ByteArray) : Option (ByteArray × Bool) := (((ck (0 ≤ x0.length ∧ x0.length ≤ 4294967290)).bind fun u4 => F73_l1 x1 x0 0 : Option ((ByteArray × Bool) ⊕ (Unit))).bind fun o1 => match o1 with | Sum.inl f => some f | Sum.inr po1 => some (((⟨#[]⟩ : ByteArray), false)))
def a73 : AFn := ⟨21, [(.tmp 4), (.tmp 5)],
 (.seq (.reg [sq 4 (.mv (kS ⟨#[]⟩)),
sq 5 (.mv (kB false))])
 (.seq (.seq (.reg [sq 8 (.mv (.t 0)),
sq 9 (.len (.t 8)),
sq 10 (.mv (kI 0))])
 (.sem (.block 0 (.loop (.seq (.reg [sq 11 (.bin .lss (.t 10) (.t 9))])
 (.seq (.cond (.t 11)
 .skip
 (.exit 0))
 (.seq (.block 1 (.seq (.reg [sq 12 (.indexA 2 (.t 8) (.t 10)),
sq 13 (.load (some 2) (.t 12)),
sq 7 (.zbox [.d (.v (.string ⟨#[]⟩)), .d (.v (.string ⟨#[]⟩))]),
su (.store 2 (.t 7) (.t 13))])
 (.seq (.reg [sq 14 (.fieldA 0 (.t 7)),
sq 15 (.load none (.t 14)),
sq 16 (.mv (.t 1)),
sq 17 (.bin .eql (.t 15) (.t 16))])
 (.cond (.t 17)
 (.seq (.reg [sq 18 (.fieldA 1 (.t 7)),
sq 19 (.load none (.t 18)),
sq 4 (.mv (.t 19)),
sq 5 (.mv (kB true))])
 .ret)
 .skip))))
 (.reg [sq 20 (.bin .add (.t 10) (kI 1)),
sq 10 (.mv (.t 20))]))))))))
 (.seq (.reg [sq 4 (.mv (kS ⟨#[]⟩)),
sq 5 (.mv (kB false))])
 .ret)))⟩
theorem a73_ok : afn Try.prog 73 = some a73.er := by kernel_rfl
theorem F73_ok {x0 : (List Label)} {x1 : ByteArray} {r : ByteArray × Bool} (h : F73 x0 x1 = some r) : CallD Try.prog 73 [.c (.d (.sl (x0.map eLabel))), .c (.d (.v (.string x1)))] [] (tupV [.c (.d (.v (.string r.1))), .c (.d (.v (.bool r.2)))]) [] := by
 refine callS a73_ok (by simp [a73]) ?_
 rw [F73] at h
 simp only [a73, VW.down, Nat.reduceEqDiff, reduceCtorEq, Nat.reduceAdd, Nat.reduceLeDiff, Nat.reduceLT, Nat.reduceBEq, Nat.reduceSub, EE.down]
 obtain ⟨o1, ho, h⟩ := bi h
 refine cutS (fun s => ∃ po1, o1 = Sum.inr po1 ∧ s = ⟨[], []⟩) ?_ ?_
 ·have h0o1 := h
  have h := ho
  clear ho
  obtain ⟨_, hk, h⟩ := bi h
  have hk := ck_some hk
  refine ww ?_
  refine bL (fun j s => ∃ (o1_0 : Nat), (o1_0 ≤ x0.length ∧ j = x0.length - o1_0) ∧ s = ⟨[(1, .one (.c (.d (.v (.string x1))))), (8, .one (.c (.d (.sl (x0.map eLabel))))), (9, .one (.c (.d (.v (.int .i64 ((x0.length : Int))))))), (10, .one (.c (.d (.v (.int .i64 ((o1_0 : Int)))))))], []⟩ ∧ F73_l1 x1 (x0.drop o1_0) o1_0 = some o1) (x0.length - 0) [] ⟨0, ⟨hk.1, rfl⟩, rfl, h⟩ ?_
  rintro _ _ ⟨o1_0, ⟨hi, rfl⟩, rfl, h⟩
  refine ww ?_
  refine condS (fun c2 => ?_) (fun c2 => ?_)
  ·obtain ⟨xo1, hxo1, hd⟩ := countY (show (o1_0 : Int) < (x0.length : Int) from c2)
   rw [hd, F73_l1] at h
   refine ww ?_
   refine t_idxF (enc := eLabel) (xs := x0) rfl rfl hxo1 rfl ?_
   refine ww ?_
   refine condSh h (fun c3 h => ?_) (fun c3 h => ?_)
   ·refine ww ?_
    obtain ⟨fh0o1, hfh0o1, rfl⟩ := Option.map_eq_some_iff.1 h
    have h := hfh0o1.trans h0o1
    obtain rfl := Option.some.inj h
    exact eF []
   ·refine ww ?_
    rw [wrapN (by omega)]
    exact eL' (x0.length - (o1_0 + 1)) [] ⟨o1_0 + 1, ⟨by omega, rfl⟩, rfl, h⟩ (by omega)
  ·rw [countN (show ¬ ((o1_0 : Int) < (x0.length : Int)) from c2), F73_l1] at h
   refine ww ?_
   obtain rfl := Option.some.inj h
   exact eM [] ⟨_, rfl, rfl⟩
 ·rintro _ ⟨po1, rfl, rfl⟩
  clear ho
  dsimp only at h
  refine ww ?_
  obtain rfl := Option.some.inj h
  exact eF []

/- slices.Index[[]string,string] -/
def F91_l1 (x1 : ByteArray) : List ByteArray → Nat → Option ((Int) ⊕ (Unit))
  | [], o1_0 => some (Sum.inr (()))
  | xo1 :: xs, o1_0 => (if x1 = xo1 then (some ((o1_0 : Int))).map Sum.inl else F91_l1 x1 xs (o1_0 + 1))
def F91 (x0 : (List ByteArray)) (x1 : ByteArray) : Option (Int) := (((ck (0 ≤ x0.length ∧ x0.length ≤ 4294967290)).bind fun u4 => F91_l1 x1 x0 0 : Option ((Int) ⊕ (Unit))).bind fun o1 => match o1 with | Sum.inl f => some f | Sum.inr po1 => some ((-1)))
def a91 : AFn := ⟨19, [(.tmp 4)],
 (.seq (.reg [sq 4 (.mv (kI 0))])
 (.seq (.seq (.reg [sq 6 (.mv (.t 0)),
sq 7 (.len (.t 6)),
sq 8 (.mv (kI 0))])
 (.sem (.block 0 (.loop (.seq (.reg [sq 9 (.bin .lss (.t 8) (.t 7))])
 (.seq (.cond (.t 9)
 .skip
 (.exit 0))
 (.seq (.block 1 (.seq (.reg [sq 10 (.mv (.t 8)),
sq 5 (.mv (.t 10))])
 (.seq (.reg [sq 11 (.mv (.t 1)),
sq 12 (.mv (.t 0)),
sq 13 (.mv (.t 5)),
sq 14 (.indexA 1 (.t 12) (.t 13)),
sq 15 (.load none (.t 14)),
sq 16 (.bin .eql (.t 11) (.t 15))])
 (.cond (.t 16)
 (.seq (.reg [sq 17 (.mv (.t 5)),
sq 4 (.mv (.t 17))])
 .ret)
 .skip))))
 (.reg [sq 18 (.bin .add (.t 8) (kI 1)),
sq 8 (.mv (.t 18))]))))))))
 (.seq (.reg [sq 4 (.mv (kI (-1)))])
 .ret)))⟩
theorem a91_ok : afn Try.prog 91 = some a91.er := by kernel_rfl
theorem F91_ok {x0 : (List ByteArray)} {x1 : ByteArray} {r : Int} (h : F91 x0 x1 = some r) : CallD Try.prog 91 [.c (.d (.sl (x0.map eS))), .c (.d (.v (.string x1)))] [] (tupV [.c (.d (.v (.int .i64 r)))]) [] := by
 refine callS a91_ok (by simp [a91]) ?_
 rw [F91] at h
 simp only [a91, VW.down, Nat.reduceEqDiff, reduceCtorEq, Nat.reduceAdd, Nat.reduceLeDiff, Nat.reduceLT, Nat.reduceBEq, Nat.reduceSub, EE.down]
 obtain ⟨o1, ho, h⟩ := bi h
 refine cutS (fun s => ∃ po1, o1 = Sum.inr po1 ∧ s = ⟨[], []⟩) ?_ ?_
 ·have h0o1 := h
  have h := ho
  clear ho
  obtain ⟨_, hk, h⟩ := bi h
  have hk := ck_some hk
  refine ww ?_
  refine bL (fun j s => ∃ (o1_0 : Nat), (o1_0 ≤ x0.length ∧ j = x0.length - o1_0) ∧ s = ⟨[(0, .one (.c (.d (.sl (x0.map eS))))), (1, .one (.c (.d (.v (.string x1))))), (7, .one (.c (.d (.v (.int .i64 ((x0.length : Int))))))), (8, .one (.c (.d (.v (.int .i64 ((o1_0 : Int)))))))], []⟩ ∧ F91_l1 x1 (x0.drop o1_0) o1_0 = some o1) (x0.length - 0) [] ⟨0, ⟨hk.1, rfl⟩, rfl, h⟩ ?_
  rintro _ _ ⟨o1_0, ⟨hi, rfl⟩, rfl, h⟩
  refine ww ?_
  refine condS (fun c2 => ?_) (fun c2 => ?_)
  ·obtain ⟨xo1, hxo1, hd⟩ := countY (show (o1_0 : Int) < (x0.length : Int) from c2)
   rw [hd, F91_l1] at h
   refine ww ?_
   refine t_idxF (enc := eS) (xs := x0) rfl rfl hxo1 rfl ?_
   refine ww ?_
   refine condSh h (fun c3 h => ?_) (fun c3 h => ?_)
   ·refine ww ?_
    obtain ⟨fh0o1, hfh0o1, rfl⟩ := Option.map_eq_some_iff.1 h
    have h := hfh0o1.trans h0o1
    obtain rfl := Option.some.inj h
    exact eF []
   ·refine ww ?_
    rw [wrapN (by omega)]
    exact eL' (x0.length - (o1_0 + 1)) [] ⟨o1_0 + 1, ⟨by omega, rfl⟩, rfl, h⟩ (by omega)
  ·rw [countN (show ¬ ((o1_0 : Int) < (x0.length : Int)) from c2), F91_l1] at h
   refine ww ?_
   obtain rfl := Option.some.inj h
   exact eM [] ⟨_, rfl, rfl⟩
 ·rintro _ ⟨po1, rfl, rfl⟩
  clear ho
  dsimp only at h
  refine ww ?_
  obtain rfl := Option.some.inj h
  exact eF []

/- slices.Contains[[]string,string] -/
def F74 (x0 : (List ByteArray)) (x1 : ByteArray) : Option (Bool) := (F91 x0 x1).bind fun t1 => some (decide (0 ≤ t1))
def a74 : AFn := ⟨9, [(.tmp 4)],
 (.seq (.reg [sq 4 (.mv (kB false))])
 (.seq (.reg [sq 5 (.mv (.t 0)),
sq 6 (.mv (.t 1)),
sq 7 (.call 91 [(.t 5), (.t 6)]),
sq 8 (.bin .geq (.t 7) (kI 0)),
sq 4 (.mv (.t 8))])
 .ret))⟩
theorem a74_ok : afn Try.prog 74 = some a74.er := by kernel_rfl
theorem F74_ok {x0 : (List ByteArray)} {x1 : ByteArray} {r : Bool} (h : F74 x0 x1 = some r) : CallD Try.prog 74 [.c (.d (.sl (x0.map eS))), .c (.d (.v (.string x1)))] [] (tupV [.c (.d (.v (.bool r)))]) [] := by
 refine callS a74_ok (by simp [a74]) ?_
 rw [F74] at h
 simp only [a74, VW.down, Nat.reduceEqDiff, reduceCtorEq, Nat.reduceAdd, Nat.reduceLeDiff, Nat.reduceLT, Nat.reduceBEq, Nat.reduceSub, EE.down]
 obtain ⟨t1, ht1, h⟩ := bi h
 refine cN [] (F91_ok ht1) trivial ?_
 refine ww ?_
 obtain rfl := Option.some.inj h
 exact eF []

/- orchestrator/label.holds -/
def F54 (x0 : Requirement) (x1 : (List Label)) : Option (Bool) := (F73 x1 x0.Key).bind fun t1 => (if x0.Op = 1 then (((if t1.2 = true then (F74 x0.Values t1.1).bind fun t5 => some t5 else some false)).bind fun o3 => some o3) else (if x0.Op = 2 then (((if (nb t1.2) = true then some true else (F74 x0.Values t1.1).bind fun t9 => some (nb t9))).bind fun o7 => some o7) else (if x0.Op = 3 then some t1.2 else (if x0.Op = 4 then some (nb t1.2) else some false))))
def a54 : AFn := ⟨43, [(.tmp 4)],
 (.seq (.reg [sq 2 (.box (.t 0)),
sq 4 (.mv (kB false))])
 (.seq (.reg [sq 8 (.mv (.t 1)),
sq 9 (.fieldA 0 (.t 2)),
sq 10 (.load none (.t 9)),
sq 11 (.call 73 [(.t 8), (.t 10)]),
sq 7 (.mv (.t 11)),
sq 12 (.ext (.t 7) 0),
sq 13 (.ext (.t 7) 1),
sq 5 (.mv (.t 12)),
sq 6 (.mv (.t 13))])
 (.seq (.seq (.reg [sq 14 (.fieldA 1 (.t 2)),
sq 15 (.load none (.t 14))])
 (.block 0 (.seq (.reg [sq 17 (.bin .eql (.t 15) (kI 1)),
sq 16 (.mv (.t 17))])
 (.cond (.t 16)
 (.seq (.sem (.reg [sq 18 (.mv (.t 6)),
sq 19 (.mv (.t 18)),
⟨(some 20), (some (19, true)), .fieldA 2 (.t 2), [], (.new [])⟩,
⟨(some 21), (some (19, true)), .load none (.t 20), [], (.new [])⟩,
⟨(some 22), (some (19, true)), .mv (.t 5), [], (.new [])⟩,
⟨(some 23), (some (19, true)), .call 74 [(.t 21), (.t 22)], [], (.new [])⟩,
sq 24 (.pick (.t 19) (.t 23) (kB false)),
sq 4 (.mv (.t 24))]))
 .ret)
 (.seq (.reg [sq 26 (.bin .eql (.t 15) (kI 2)),
sq 25 (.mv (.t 26))])
 (.cond (.t 25)
 (.seq (.sem (.reg [sq 27 (.mv (.t 6)),
sq 28 (.not (.t 27)),
sq 29 (.mv (.t 28)),
⟨(some 30), (some (29, false)), .fieldA 2 (.t 2), [], (.new [])⟩,
⟨(some 31), (some (29, false)), .load none (.t 30), [], (.new [])⟩,
⟨(some 32), (some (29, false)), .mv (.t 5), [], (.new [])⟩,
⟨(some 33), (some (29, false)), .call 74 [(.t 31), (.t 32)], [], (.new [])⟩,
⟨(some 34), (some (29, false)), .not (.t 33), [], (.new [])⟩,
sq 35 (.pick (.t 29) (kB true) (.t 34)),
sq 4 (.mv (.t 35))]))
 .ret)
 (.seq (.reg [sq 37 (.bin .eql (.t 15) (kI 3)),
sq 36 (.mv (.t 37))])
 (.cond (.t 36)
 (.seq (.reg [sq 38 (.mv (.t 6)),
sq 4 (.mv (.t 38))])
 .ret)
 (.seq (.reg [sq 40 (.bin .eql (.t 15) (kI 4)),
sq 39 (.mv (.t 40))])
 (.cond (.t 39)
 (.seq (.reg [sq 41 (.mv (.t 6)),
sq 42 (.not (.t 41)),
sq 4 (.mv (.t 42))])
 .ret)
 .skip))))))))))
 (.seq (.reg [sq 4 (.mv (kB false))])
 .ret))))⟩
theorem a54_ok : afn Try.prog 54 = some a54.er := by kernel_rfl
theorem F54_ok {x0 : Requirement} {x1 : (List Label)} {r : Bool} (h : F54 x0 x1 = some r) : CallD Try.prog 54 [.agg [.d (.v (.string x0.Key)), .d (.v (.int .i64 x0.Op)), .d (.sl (x0.Values.map eS))], .c (.d (.sl (x1.map eLabel)))] [] (tupV [.c (.d (.v (.bool r)))]) [] := by
 refine callS a54_ok (by simp [a54]) ?_
 rw [F54] at h
 simp only [a54, VW.down, Nat.reduceEqDiff, reduceCtorEq, Nat.reduceAdd, Nat.reduceLeDiff, Nat.reduceLT, Nat.reduceBEq, Nat.reduceSub, EE.down]
 obtain ⟨t1, ht1, h⟩ := bi h
 refine cN [] (F73_ok ht1) trivial ?_
 refine ww ?_
 refine condSh h (fun c2 h => ?_) (fun c2 h => ?_)
 ·refine ww ?_
  obtain ⟨o3, ho, h⟩ := bi h
  refine cutS (fun s => s = ⟨[(4, .one (.c (.d (.v (.bool o3)))))], []⟩) ?_ ?_
  ·have h := ho
   clear ho
   refine ww ?_
   refine guardSBh h (fun g4 h => ?_) (fun g4 h => ?_)
   ·refine ww ?_
    obtain ⟨t5, ht5, h⟩ := bi h
    refine cN [] (F74_ok ht5) trivial ?_
    refine ww ?_
    obtain rfl := Option.some.inj h
    exact eM [] rfl
   ·refine ww ?_
    obtain rfl := Option.some.inj h
    exact eM [] rfl
  ·rintro _ rfl
   clear ho
   refine ww ?_
   obtain rfl := Option.some.inj h
   exact eF []
 ·refine ww ?_
  refine condSh h (fun c6 h => ?_) (fun c6 h => ?_)
  ·refine ww ?_
   obtain ⟨o7, ho, h⟩ := bi h
   refine cutS (fun s => s = ⟨[(4, .one (.c (.d (.v (.bool o7)))))], []⟩) ?_ ?_
   ·have h := ho
    clear ho
    refine ww ?_
    refine guardSBh h (fun g8 h => ?_) (fun g8 h => ?_)
    ·refine ww ?_
     obtain rfl := Option.some.inj h
     exact eM [] rfl
    ·refine ww ?_
     obtain ⟨t9, ht9, h⟩ := bi h
     refine cN [] (F74_ok ht9) trivial ?_
     refine ww ?_
     obtain rfl := Option.some.inj h
     exact eM [] rfl
   ·rintro _ rfl
    clear ho
    refine ww ?_
    obtain rfl := Option.some.inj h
    exact eF []
  ·refine ww ?_
   refine condSh h (fun c10 h => ?_) (fun c10 h => ?_)
   ·refine ww ?_
    obtain rfl := Option.some.inj h
    exact eF []
   ·refine ww ?_
    refine condSh h (fun c11 h => ?_) (fun c11 h => ?_)
    ·refine ww ?_
     obtain rfl := Option.some.inj h
     exact eF []
    ·refine ww ?_
     obtain rfl := Option.some.inj h
     exact eF []

/- orchestrator/label.Matches -/
def F42_l1 (x1 : (List Label)) : List Requirement → Nat → Option ((Bool) ⊕ (Unit))
  | [], o1_0 => some (Sum.inr (()))
  | xo1 :: xs, o1_0 => (F54 xo1 x1).bind fun t3 => (if (nb t3) = true then (some false).map Sum.inl else F42_l1 x1 xs (o1_0 + 1))
def F42 (x0 : (List Requirement)) (x1 : (List Label)) : Option (Bool) := (((ck (0 ≤ x0.length ∧ x0.length ≤ 4294967290)).bind fun u5 => F42_l1 x1 x0 0 : Option ((Bool) ⊕ (Unit))).bind fun o1 => match o1 with | Sum.inl f => some f | Sum.inr po1 => some true)
def a42 : AFn := ⟨18, [(.tmp 4)],
 (.seq (.reg [sq 4 (.mv (kB false))])
 (.seq (.seq (.reg [sq 7 (.mv (.t 0)),
sq 8 (.len (.t 7)),
sq 9 (.mv (kI 0))])
 (.sem (.block 0 (.loop (.seq (.reg [sq 10 (.bin .lss (.t 9) (.t 8))])
 (.seq (.cond (.t 10)
 .skip
 (.exit 0))
 (.seq (.block 1 (.seq (.reg [sq 11 (.indexA 3 (.t 7) (.t 9)),
sq 12 (.load (some 3) (.t 11)),
sq 6 (.zbox [.d (.v (.string ⟨#[]⟩)), .d (.v (.int .i64 0)), .d (.v (.slice none 0 0))]),
su (.store 3 (.t 6) (.t 12))])
 (.seq (.reg [sq 13 (.load (some 3) (.t 6)),
sq 14 (.mv (.t 1)),
sq 15 (.call 54 [(.t 13), (.t 14)]),
sq 16 (.not (.t 15))])
 (.cond (.t 16)
 (.seq (.reg [sq 4 (.mv (kB false))])
 .ret)
 .skip))))
 (.reg [sq 17 (.bin .add (.t 9) (kI 1)),
sq 9 (.mv (.t 17))]))))))))
 (.seq (.reg [sq 4 (.mv (kB true))])
 .ret)))⟩
theorem a42_ok : afn Try.prog 42 = some a42.er := by kernel_rfl
theorem F42_ok {x0 : (List Requirement)} {x1 : (List Label)} {r : Bool} (h : F42 x0 x1 = some r) : CallD Try.prog 42 [.c (.d (.sl (x0.map eRequirement))), .c (.d (.sl (x1.map eLabel)))] [] (tupV [.c (.d (.v (.bool r)))]) [] := by
 refine callS a42_ok (by simp [a42]) ?_
 rw [F42] at h
 simp only [a42, VW.down, Nat.reduceEqDiff, reduceCtorEq, Nat.reduceAdd, Nat.reduceLeDiff, Nat.reduceLT, Nat.reduceBEq, Nat.reduceSub, EE.down]
 obtain ⟨o1, ho, h⟩ := bi h
 refine cutS (fun s => ∃ po1, o1 = Sum.inr po1 ∧ s = ⟨[], []⟩) ?_ ?_
 ·have h0o1 := h
  have h := ho
  clear ho
  obtain ⟨_, hk, h⟩ := bi h
  have hk := ck_some hk
  refine ww ?_
  refine bL (fun j s => ∃ (o1_0 : Nat), (o1_0 ≤ x0.length ∧ j = x0.length - o1_0) ∧ s = ⟨[(1, .one (.c (.d (.sl (x1.map eLabel))))), (7, .one (.c (.d (.sl (x0.map eRequirement))))), (8, .one (.c (.d (.v (.int .i64 ((x0.length : Int))))))), (9, .one (.c (.d (.v (.int .i64 ((o1_0 : Int)))))))], []⟩ ∧ F42_l1 x1 (x0.drop o1_0) o1_0 = some o1) (x0.length - 0) [] ⟨0, ⟨hk.1, rfl⟩, rfl, h⟩ ?_
  rintro _ _ ⟨o1_0, ⟨hi, rfl⟩, rfl, h⟩
  refine ww ?_
  refine condS (fun c2 => ?_) (fun c2 => ?_)
  ·obtain ⟨xo1, hxo1, hd⟩ := countY (show (o1_0 : Int) < (x0.length : Int) from c2)
   rw [hd, F42_l1] at h
   refine ww ?_
   refine t_idxF (enc := eRequirement) (xs := x0) rfl rfl hxo1 rfl ?_
   refine ww ?_
   obtain ⟨t3, ht3, h⟩ := bi h
   refine cN [] (F54_ok ht3) trivial ?_
   refine ww ?_
   refine condBh h (fun c4 h => ?_) (fun c4 h => ?_)
   ·refine ww ?_
    obtain ⟨fh0o1, hfh0o1, rfl⟩ := Option.map_eq_some_iff.1 h
    have h := hfh0o1.trans h0o1
    obtain rfl := Option.some.inj h
    exact eF []
   ·refine ww ?_
    rw [wrapN (by omega)]
    exact eL' (x0.length - (o1_0 + 1)) [] ⟨o1_0 + 1, ⟨by omega, rfl⟩, rfl, h⟩ (by omega)
  ·rw [countN (show ¬ ((o1_0 : Int) < (x0.length : Int)) from c2), F42_l1] at h
   refine ww ?_
   obtain rfl := Option.some.inj h
   exact eM [] ⟨_, rfl, rfl⟩
 ·rintro _ ⟨po1, rfl, rfl⟩
  clear ho
  dsimp only at h
  refine ww ?_
  obtain rfl := Option.some.inj h
  exact eF []

/- orchestrator/endpoints.selects -/
def F25 (x0 : Service) (x1 : Pod) : Option (Bool) := (((if x1.Meta.Namespace = x0.Meta.Namespace then (if 0 < x1.Status.Address then (if x1.Status.Phase = 0 then (F42 x0.Selector x1.Meta.Labels).bind fun t5 => some t5 else (if x1.Status.Phase = 1 then (F42 x0.Selector x1.Meta.Labels).bind fun t7 => some t7 else some false)) else some false) else some false)).bind fun o1 => some o1)
def a25 : AFn := ⟨38, [(.tmp 4)],
 (.seq (.reg [sq 2 (.box (.t 0)),
sq 3 (.box (.t 1)),
sq 4 (.mv (kB false))])
 (.seq (.sem (.reg [sq 5 (.fieldA 0 (.t 3)),
sq 6 (.fieldA 1 (.t 5)),
sq 7 (.load none (.t 6)),
sq 8 (.fieldA 0 (.t 2)),
sq 9 (.fieldA 1 (.t 8)),
sq 10 (.load none (.t 9)),
sq 11 (.bin .eql (.t 7) (.t 10)),
sq 12 (.mv (.t 11)),
⟨(some 13), (some (12, true)), .fieldA 23 (.t 3), [], (.new [])⟩,
⟨(some 14), (some (12, true)), .fieldA 6 (.t 13), [], (.new [])⟩,
⟨(some 15), (some (12, true)), .load none (.t 14), [], (.new [])⟩,
⟨(some 16), (some (12, true)), .bin .gtr (.t 15) (kI 0), [], (.new [])⟩,
sq 17 (.pick (.t 12) (.t 16) (kB false)),
sq 18 (.mv (.t 17)),
⟨(some 19), (some (18, true)), .fieldA 23 (.t 3), [], (.new [])⟩,
⟨(some 20), (some (18, true)), .fieldA 0 (.t 19), [], (.new [])⟩,
⟨(some 21), (some (18, true)), .load none (.t 20), [], (.new [])⟩,
⟨(some 22), (some (18, true)), .bin .eql (.t 21) (kI 0), [], (.new [])⟩,
⟨(some 23), (some (18, true)), .mv (.t 22), [], (.new [])⟩,
⟨(some 24), (some (23, false)), .fieldA 23 (.t 3), [], (.new [])⟩,
⟨(some 25), (some (23, false)), .fieldA 0 (.t 24), [], (.new [])⟩,
⟨(some 26), (some (23, false)), .load none (.t 25), [], (.new [])⟩,
⟨(some 27), (some (23, false)), .bin .eql (.t 26) (kI 1), [], (.new [])⟩,
⟨(some 28), (some (18, true)), .pick (.t 23) (kB true) (.t 27), [], (.new [])⟩,
sq 29 (.pick (.t 18) (.t 28) (kB false)),
sq 30 (.mv (.t 29)),
⟨(some 31), (some (30, true)), .fieldA 13 (.t 2), [], (.new [])⟩,
⟨(some 32), (some (30, true)), .load none (.t 31), [], (.new [])⟩,
⟨(some 33), (some (30, true)), .fieldA 0 (.t 3), [], (.new [])⟩,
⟨(some 34), (some (30, true)), .fieldA 9 (.t 33), [], (.new [])⟩,
⟨(some 35), (some (30, true)), .load none (.t 34), [], (.new [])⟩,
⟨(some 36), (some (30, true)), .call 42 [(.t 32), (.t 35)], [], (.new [])⟩,
sq 37 (.pick (.t 30) (.t 36) (kB false)),
sq 4 (.mv (.t 37))]))
 .ret))⟩
theorem a25_ok : afn Try.prog 25 = some a25.er := by kernel_rfl
theorem F25_ok {x0 : Service} {x1 : Pod} {r : Bool} (h : F25 x0 x1 = some r) : CallD Try.prog 25 [.agg [.d (.v (.string x0.Meta.Kind)), .d (.v (.string x0.Meta.Namespace)), .d (.v (.string x0.Meta.Name)), .d (.v (.int .i64 x0.Meta.Uid)), .d (.v (.int .i64 x0.Meta.Version)), .d (.v (.int .i64 x0.Meta.Generation)), .d (.v (.int .i64 x0.Meta.Created)), .d (.v (.bool x0.Meta.Deleting)), .d (.v (.int .i64 x0.Meta.DeleteAt)), .d (.sl (x0.Meta.Labels.map eLabel)), .d (.sl (x0.Meta.Owners.map eOwner)), .d (.sl (x0.Meta.Finalizers.map eS)), .d (.sl (x0.Meta.Managers.map eManager)), .d (.sl (x0.Selector.map eRequirement)), .d (.sl (x0.Ports.map eServicePort)), .d (.v (.bool x0.Sticky)), .d (.v (.int .i64 x0.Address))], .agg [.d (.v (.string x1.Meta.Kind)), .d (.v (.string x1.Meta.Namespace)), .d (.v (.string x1.Meta.Name)), .d (.v (.int .i64 x1.Meta.Uid)), .d (.v (.int .i64 x1.Meta.Version)), .d (.v (.int .i64 x1.Meta.Generation)), .d (.v (.int .i64 x1.Meta.Created)), .d (.v (.bool x1.Meta.Deleting)), .d (.v (.int .i64 x1.Meta.DeleteAt)), .d (.sl (x1.Meta.Labels.map eLabel)), .d (.sl (x1.Meta.Owners.map eOwner)), .d (.sl (x1.Meta.Finalizers.map eS)), .d (.sl (x1.Meta.Managers.map eManager)), .d (.v (.string x1.Spec.Node)), .d (.v (.int .i64 x1.Spec.Priority)), .d (.v (.int .i64 x1.Spec.Restart)), .d (.v (.int .i64 x1.Spec.Grace)), .d (.sl (x1.Spec.Containers.map eContainer)), .d (.sl (x1.Spec.NodeSelector.map eRequirement)), .d (.sl (x1.Spec.NodeTerms.map eNodeTerm)), .d (.sl (x1.Spec.PodTerms.map ePodTerm)), .d (.sl (x1.Spec.Spread.map eSpreadRule)), .d (.sl (x1.Spec.Tolerations.map eToleration)), .d (.v (.int .i64 x1.Status.Phase)), .d (.v (.bool x1.Status.Ready)), .d (.v (.int .i64 x1.Status.ReadySince)), .d (.v (.int .i64 x1.Status.Started)), .d (.v (.int .i64 x1.Status.Finished)), .d (.sl (x1.Status.Containers.map eContainerStatus)), .d (.v (.int .i64 x1.Status.Address)), .d (.v (.string x1.Status.Nominated)), .d (.v (.string x1.Status.Reason))]] [] (tupV [.c (.d (.v (.bool r)))]) [] := by
 refine callS a25_ok (by simp [a25]) ?_
 rw [F25] at h
 simp only [a25, VW.down, Nat.reduceEqDiff, reduceCtorEq, Nat.reduceAdd, Nat.reduceLeDiff, Nat.reduceLT, Nat.reduceBEq, Nat.reduceSub, EE.down]
 obtain ⟨o1, ho, h⟩ := bi h
 refine cutS (fun s => s = ⟨[(4, .one (.c (.d (.v (.bool o1)))))], []⟩) ?_ ?_
 ·have h := ho
  clear ho
  refine ww ?_
  refine guardSh h (fun g2 h => ?_) (fun g2 h => ?_)
  ·refine ww ?_
   refine guardSh h (fun g3 h => ?_) (fun g3 h => ?_)
   ·refine ww ?_
    refine guardSh h (fun g4 h => ?_) (fun g4 h => ?_)
    ·refine ww ?_
     obtain ⟨t5, ht5, h⟩ := bi h
     refine cN [] (F42_ok ht5) trivial ?_
     refine ww ?_
     obtain rfl := Option.some.inj h
     exact eM [] rfl
    ·refine ww ?_
     refine guardSh h (fun g6 h => ?_) (fun g6 h => ?_)
     ·refine ww ?_
      obtain ⟨t7, ht7, h⟩ := bi h
      refine cN [] (F42_ok ht7) trivial ?_
      refine ww ?_
      obtain rfl := Option.some.inj h
      exact eM [] rfl
     ·refine ww ?_
      obtain rfl := Option.some.inj h
      exact eM [] rfl
   ·refine ww ?_
    obtain rfl := Option.some.inj h
    exact eM [] rfl
  ·refine ww ?_
   obtain rfl := Option.some.inj h
   exact eM [] rfl
 ·rintro _ rfl
  clear ho
  refine ww ?_
  obtain rfl := Option.some.inj h
  exact eF []

/- orchestrator/meta.Key -/
def F43 (x0 : ByteArray) (x1 : ByteArray) (x2 : ByteArray) : Option (ByteArray) := (catI x0 ((⟨#[47]⟩ : ByteArray))).bind fun s1 => (catI s1 x1).bind fun s2 => (catI s2 ((⟨#[47]⟩ : ByteArray))).bind fun s3 => (catI s3 x2).bind fun s4 => some s4
def a43 : AFn := ⟨14, [(.tmp 6)],
 (.seq (.reg [sq 6 (.mv (kS ⟨#[]⟩))])
 (.seq (.reg [sq 7 (.mv (.t 0)),
sq 8 (.bin .add (.t 7) (kS ⟨#[47]⟩)),
sq 9 (.mv (.t 1)),
sq 10 (.bin .add (.t 8) (.t 9)),
sq 11 (.bin .add (.t 10) (kS ⟨#[47]⟩)),
sq 12 (.mv (.t 2)),
sq 13 (.bin .add (.t 11) (.t 12)),
sq 6 (.mv (.t 13))])
 .ret))⟩
theorem a43_ok : afn Try.prog 43 = some a43.er := by kernel_rfl
theorem F43_ok {x0 : ByteArray} {x1 : ByteArray} {x2 : ByteArray} {r : ByteArray} (h : F43 x0 x1 x2 = some r) : CallD Try.prog 43 [.c (.d (.v (.string x0))), .c (.d (.v (.string x1))), .c (.d (.v (.string x2)))] [] (tupV [.c (.d (.v (.string r)))]) [] := by
 refine callS a43_ok (by simp [a43]) ?_
 rw [F43] at h
 simp only [a43, VW.down, Nat.reduceEqDiff, reduceCtorEq, Nat.reduceAdd, Nat.reduceLeDiff, Nat.reduceLT, Nat.reduceBEq, Nat.reduceSub, EE.down]
 obtain ⟨s1, hs1, h⟩ := bi h
 obtain ⟨hle, es1⟩ := cat_some hs1
 refine ⟨hle, ?_⟩
 first | rw [← es1] | subst es1
 refine ww ?_
 obtain ⟨s2, hs2, h⟩ := bi h
 obtain ⟨hle, es2⟩ := cat_some hs2
 refine ⟨hle, ?_⟩
 first | rw [← es2] | subst es2
 refine ww ?_
 obtain ⟨s3, hs3, h⟩ := bi h
 obtain ⟨hle, es3⟩ := cat_some hs3
 refine ⟨hle, ?_⟩
 first | rw [← es3] | subst es3
 refine ww ?_
 obtain ⟨s4, hs4, h⟩ := bi h
 obtain ⟨hle, es4⟩ := cat_some hs4
 refine ⟨hle, ?_⟩
 first | rw [← es4] | subst es4
 refine ww ?_
 obtain rfl := Option.some.inj h
 exact eF []

/- orchestrator/meta.KeyOf -/
def F26 (x0 : Meta) : Option (ByteArray) := (F43 x0.Kind x0.Namespace x0.Name).bind fun t1 => some t1
def a26 : AFn := ⟨10, [(.tmp 2)],
 (.seq (.reg [sq 1 (.box (.t 0)),
sq 2 (.mv (kS ⟨#[]⟩))])
 (.seq (.reg [sq 3 (.fieldA 0 (.t 1)),
sq 4 (.load none (.t 3)),
sq 5 (.fieldA 1 (.t 1)),
sq 6 (.load none (.t 5)),
sq 7 (.fieldA 2 (.t 1)),
sq 8 (.load none (.t 7)),
sq 9 (.call 43 [(.t 4), (.t 6), (.t 8)]),
sq 2 (.mv (.t 9))])
 .ret))⟩
theorem a26_ok : afn Try.prog 26 = some a26.er := by kernel_rfl
theorem F26_ok {x0 : Meta} {r : ByteArray} (h : F26 x0 = some r) : CallD Try.prog 26 [.agg [.d (.v (.string x0.Kind)), .d (.v (.string x0.Namespace)), .d (.v (.string x0.Name)), .d (.v (.int .i64 x0.Uid)), .d (.v (.int .i64 x0.Version)), .d (.v (.int .i64 x0.Generation)), .d (.v (.int .i64 x0.Created)), .d (.v (.bool x0.Deleting)), .d (.v (.int .i64 x0.DeleteAt)), .d (.sl (x0.Labels.map eLabel)), .d (.sl (x0.Owners.map eOwner)), .d (.sl (x0.Finalizers.map eS)), .d (.sl (x0.Managers.map eManager))]] [] (tupV [.c (.d (.v (.string r)))]) [] := by
 refine callS a26_ok (by simp [a26]) ?_
 rw [F26] at h
 simp only [a26, VW.down, Nat.reduceEqDiff, reduceCtorEq, Nat.reduceAdd, Nat.reduceLeDiff, Nat.reduceLT, Nat.reduceBEq, Nat.reduceSub, EE.down]
 obtain ⟨t1, ht1, h⟩ := bi h
 refine cN [] (F43_ok ht1) trivial ?_
 refine ww ?_
 obtain rfl := Option.some.inj h
 exact eF []

/- strings.Compare's own -/
noncomputable def fn57 : Func := (Try.prog.funcs[57]?).getD default
theorem fn57_ok : Try.prog.funcs[57]? = some fn57 := by kernel_rfl
theorem F57_ok {a b : ByteArray} {r : Int} (h : cmpS a b = some r) : CallD Try.prog 57 [.c (.d (.v (.string a))), .c (.d (.v (.string b)))] [] (tupV [.c (.d (.v (.int .i64 r)))]) [] := L_cmp fn57_ok (by kernel_rfl) (by kernel_rfl) (by kernel_rfl) (by kernel_rfl) h

/- internal/bytealg.CompareString -/
def F45 (x0 : ByteArray) (x1 : ByteArray) : Option (Int) := (cmpS x0 x1).bind fun t1 => some t1
def a45 : AFn := ⟨8, [(.tmp 4)],
 (.seq (.reg [sq 4 (.mv (kI 0))])
 (.seq (.reg [sq 5 (.mv (.t 0)),
sq 6 (.mv (.t 1)),
sq 7 (.call 57 [(.t 5), (.t 6)]),
sq 4 (.mv (.t 7))])
 .ret))⟩
theorem a45_ok : afn Try.prog 45 = some a45.er := by kernel_rfl
theorem F45_ok {x0 : ByteArray} {x1 : ByteArray} {r : Int} (h : F45 x0 x1 = some r) : CallD Try.prog 45 [.c (.d (.v (.string x0))), .c (.d (.v (.string x1)))] [] (tupV [.c (.d (.v (.int .i64 r)))]) [] := by
 refine callS a45_ok (by simp [a45]) ?_
 rw [F45] at h
 simp only [a45, VW.down, Nat.reduceEqDiff, reduceCtorEq, Nat.reduceAdd, Nat.reduceLeDiff, Nat.reduceLT, Nat.reduceBEq, Nat.reduceSub, EE.down]
 obtain ⟨t1, ht1, h⟩ := bi h
 refine cN [] (F57_ok ht1) trivial ?_
 refine ww ?_
 obtain rfl := Option.some.inj h
 exact eF []

/- strings.Compare -/
def F29 (x0 : ByteArray) (x1 : ByteArray) : Option (Int) := (F45 x0 x1).bind fun t1 => some t1
def a29 : AFn := ⟨8, [(.tmp 4)],
 (.seq (.reg [sq 4 (.mv (kI 0))])
 (.seq (.reg [sq 5 (.mv (.t 0)),
sq 6 (.mv (.t 1)),
sq 7 (.call 45 [(.t 5), (.t 6)]),
sq 4 (.mv (.t 7))])
 .ret))⟩
theorem a29_ok : afn Try.prog 29 = some a29.er := by kernel_rfl
theorem F29_ok {x0 : ByteArray} {x1 : ByteArray} {r : Int} (h : F29 x0 x1 = some r) : CallD Try.prog 29 [.c (.d (.v (.string x0))), .c (.d (.v (.string x1)))] [] (tupV [.c (.d (.v (.int .i64 r)))]) [] := by
 refine callS a29_ok (by simp [a29]) ?_
 rw [F29] at h
 simp only [a29, VW.down, Nat.reduceEqDiff, reduceCtorEq, Nat.reduceAdd, Nat.reduceLeDiff, Nat.reduceLT, Nat.reduceBEq, Nat.reduceSub, EE.down]
 obtain ⟨t1, ht1, h⟩ := bi h
 refine cN [] (F45_ok ht1) trivial ?_
 refine ww ?_
 obtain rfl := Option.some.inj h
 exact eF []

/- orchestrator/endpoints.Of$1 -/
def F28 (x0 : Endpoint) (x1 : Endpoint) : Option (Int) := (F29 x0.Pod x1.Pod).bind fun t1 => some t1
def a28 : AFn := ⟨10, [(.tmp 4)],
 (.seq (.reg [sq 2 (.box (.t 0)),
sq 3 (.box (.t 1)),
sq 4 (.mv (kI 0))])
 (.seq (.reg [sq 5 (.fieldA 0 (.t 2)),
sq 6 (.load none (.t 5)),
sq 7 (.fieldA 0 (.t 3)),
sq 8 (.load none (.t 7)),
sq 9 (.call 29 [(.t 6), (.t 8)]),
sq 4 (.mv (.t 9))])
 .ret))⟩
theorem a28_ok : afn Try.prog 28 = some a28.er := by kernel_rfl
theorem F28_ok {x0 : Endpoint} {x1 : Endpoint} {r : Int} (h : F28 x0 x1 = some r) : CallD Try.prog 28 [.agg [.d (.v (.string x0.Pod)), .d (.v (.string x0.Node)), .d (.v (.int .i64 x0.Address)), .d (.v (.bool x0.Ready)), .d (.v (.bool x0.Terminating))], .agg [.d (.v (.string x1.Pod)), .d (.v (.string x1.Node)), .d (.v (.int .i64 x1.Address)), .d (.v (.bool x1.Ready)), .d (.v (.bool x1.Terminating))]] [] (tupV [.c (.d (.v (.int .i64 r)))]) [] := by
 refine callS a28_ok (by simp [a28]) ?_
 rw [F28] at h
 simp only [a28, VW.down, Nat.reduceEqDiff, reduceCtorEq, Nat.reduceAdd, Nat.reduceLeDiff, Nat.reduceLT, Nat.reduceBEq, Nat.reduceSub, EE.down]
 obtain ⟨t1, ht1, h⟩ := bi h
 refine cN [] (F29_ok ht1) trivial ?_
 refine ww ?_
 obtain rfl := Option.some.inj h
 exact eF []

/- slices.insertionSortCmpFunc[orchestrator/api.Endpoint] -/
def F55_l3 (x1 : Int) : Nat → (List Endpoint) → Int → Option ((List Endpoint))
  | 0, _, _ => none
  | k + 1, o3_0, o3_1 => (((if x1 < o3_1 then (rdI o3_0 o3_1).bind fun y6 => (rdI o3_0 ((IntKind.i64.wrap (o3_1 - 1)))).bind fun y7 => (F28 y6 y7).bind fun t8 => some (decide (t8 < 0)) else some false)).bind fun o4 => (if o4 = true then (rdI o3_0 ((IntKind.i64.wrap (o3_1 - 1)))).bind fun y10 => (rdI o3_0 o3_1).bind fun y11 => (rdI o3_0 o3_1).bind fun y12 => (rdI ((o3_0.set o3_1.toNat y10)) ((IntKind.i64.wrap (o3_1 - 1)))).bind fun y13 => F55_l3 x1 k ((((o3_0.set o3_1.toNat y10)).set ((IntKind.i64.wrap (o3_1 - 1))).toNat y11)) ((IntKind.i64.wrap (o3_1 - 1))) else some o3_0))
def F55_l1 (x1 : Int) (x2 : Int) : Nat → (List Endpoint) → Int → Option ((List Endpoint))
  | 0, _, _ => none
  | k + 1, o1_0, o1_1 => (if o1_1 < x2 then ((F55_l3 x1 1099511627776 o1_0 o1_1).bind fun o3 => F55_l1 x1 x2 k o3 ((IntKind.i64.wrap (o1_1 + 1)))) else some o1_0)
def F55i (x0 : (List Endpoint)) (x1 : Int) (x2 : Int) : Option ((List Endpoint)) := ((F55_l1 x1 x2 1099511627776 x0 ((IntKind.i64.wrap (x1 + 1)))).bind fun o1 => some o1)
def F55 (x0 : (List Endpoint)) (x1 : Int) (x2 : Int) : Option ((List Endpoint)) := (F55i x0 x1 x2).bind fun r => if r.length = x0.length then some r else none
theorem F55_len0 {x0 : (List Endpoint)} {x1 : Int} {x2 : Int} {r : (List Endpoint)} (h : F55 x0 x1 x2 = some r) : r.length = x0.length := (guard_some h).2
def a55 : AFn := ⟨53, [],
 (.seq (.reg [sq 10 (.mv (.t 1)),
sq 11 (.bin .add (.t 10) (kI 1)),
sq 8 (.mv (.t 11))])
 (.sem (.block 0 (.loop (.seq (.seq (.reg [sq 12 (.mv (.t 8)),
sq 13 (.mv (.t 2)),
sq 14 (.bin .lss (.t 12) (.t 13))])
 (.cond (.t 14)
 .skip
 (.exit 0)))
 (.seq (.block 1 (.seq (.reg [sq 17 (.mv (.t 8)),
sq 9 (.mv (.t 17))])
 (.sem (.block 2 (.loop (.seq (.seq (.sem (.regd [sq 18 (.mv (.t 9)),
sq 19 (.mv (.t 1)),
sd 20 (.bin .gtr (.t 18) (.t 19)) [0, 1],
sd 21 (.mv (.t 20)) [0, 1, 2],
⟨(some 22), (some (21, true)), .mv (.t 3), [0, 1, 2, 3], (.new [])⟩,
⟨(some 23), (some (21, true)), .mv (.t 0), [0, 1, 2, 3], (.new [])⟩,
⟨(some 24), (some (21, true)), .mv (.t 9), [0, 1, 2, 3], (.new [])⟩,
⟨(some 25), (some (21, true)), .indexA 5 (.t 23) (.t 24), [0, 1, 2, 3, 5, 6], (.new [])⟩,
⟨(some 26), (some (21, true)), .load (some 5) (.t 25), [0, 1, 2, 3, 5, 6, 7], (.new [])⟩,
⟨(some 27), (some (21, true)), .mv (.t 0), [0, 1, 2, 3], (.new [])⟩,
⟨(some 28), (some (21, true)), .mv (.t 9), [0, 1, 2, 3], (.new [])⟩,
⟨(some 29), (some (21, true)), .bin .sub (.t 28) (kI 1), [0, 1, 2, 3, 10], (.new [])⟩,
⟨(some 30), (some (21, true)), .indexA 5 (.t 27) (.t 29), [0, 1, 2, 3, 9, 10, 11], (.new [])⟩,
⟨(some 31), (some (21, true)), .load (some 5) (.t 30), [0, 1, 2, 3, 9, 10, 11, 12], (.new [])⟩,
⟨(some 32), (some (21, true)), .callv (.t 22) [(.t 26), (.t 31)], [0, 1, 2, 3, 4, 5, 6, 7, 8, 9, 10, 11, 12, 13], (.lone [])⟩,
⟨(some 33), (some (21, true)), .bin .lss (.t 32) (kI 0), [0, 1, 2, 3, 4, 5, 6, 7, 8, 9, 10, 11, 12, 13, 14], (.new [])⟩,
⟨(some 34), none, .pick (.t 21) (.t 33) (kB false), [0, 1, 2, 3, 4, 5, 6, 7, 8, 9, 10, 11, 12, 13, 14, 15], (.lone [])⟩]))
 (.cond (.t 34)
 .skip
 (.exit 2)))
 (.seq (.block 3 (.regd [sq 37 (.mv (.t 0)),
sq 38 (.mv (.t 9)),
sq 39 (.mv (.t 0)),
sq 40 (.mv (.t 9)),
sd 41 (.bin .sub (.t 40) (kI 1)) [3],
sq 42 (.mv (.t 0)),
sq 43 (.mv (.t 9)),
sd 44 (.bin .sub (.t 43) (kI 1)) [6],
sd 45 (.indexA 5 (.t 42) (.t 44)) [5, 6, 7],
sd 46 (.load (some 5) (.t 45)) [5, 6, 7, 8],
sq 47 (.mv (.t 0)),
sq 48 (.mv (.t 9)),
sd 49 (.indexA 5 (.t 47) (.t 48)) [10, 11],
sd 50 (.load (some 5) (.t 49)) [10, 11, 12],
sd 51 (.indexA 5 (.t 37) (.t 38)) [0, 1, 5, 6, 7, 8, 9, 10, 11, 12, 13],
⟨none, none, .store 5 (.t 51) (.t 46), [0, 1, 5, 6, 7, 8, 9, 10, 11, 12, 13, 14], (.lone [])⟩,
sd 52 (.indexA 5 (.t 39) (.t 41)) [0, 1, 2, 3, 4, 5, 6, 7, 8, 9, 10, 11, 12, 13, 14, 15],
⟨none, none, .store 5 (.t 52) (.t 50), [0, 1, 2, 3, 4, 5, 6, 7, 8, 9, 10, 11, 12, 13, 14, 15, 16], (.lone [])⟩]))
 (.reg [sq 35 (.mv (.t 9)),
sq 36 (.bin .sub (.t 35) (kI 1)),
sq 9 (.mv (.t 36))]))))))))
 (.reg [sq 15 (.mv (.t 8)),
sq 16 (.bin .add (.t 15) (kI 1)),
sq 8 (.mv (.t 16))])))))))⟩
theorem a55_ok : afn Try.prog 55 = some a55.er := by kernel_rfl
theorem F55_ok {x0 : (List Endpoint)} {x1 : Int} {x2 : Int} {r : (List Endpoint)} {e0 : Nat} (h : F55 x0 x1 x2 = some r) : CallD Try.prog 55 [.c (.own 0 e0 0 (x0.length) none), .c (.d (.v (.int .i64 x1))), .c (.d (.v (.int .i64 x2))), .c (.fn 28 [])] [some (.arr e0 5 (x0.map eEndpoint))] (tupV []) [some (.arr e0 5 (r.map eEndpoint))] := by
 replace h := (guard_some h).1
 refine callS a55_ok (by simp [a55]) ?_
 rw [F55i] at h
 simp only [a55, VW.down, Nat.reduceEqDiff, reduceCtorEq, Nat.reduceAdd, Nat.reduceLeDiff, Nat.reduceLT, Nat.reduceBEq, Nat.reduceSub, EE.down]
 obtain ⟨o1, ho, h⟩ := bi h
 refine cutS (fun s => s = ⟨[], [some (.arr e0 5 (o1.map eEndpoint))]⟩) ?_ ?_
 ·have h := ho
  clear ho
  refine ww ?_
  refine bL (fun j s => ∃ (o1_0 : List Endpoint) (o1_1 : Int), s = ⟨[(0, .one (.c (.own 0 e0 0 (o1_0.length) none))), (1, .one (.c (.d (.v (.int .i64 x1))))), (2, .one (.c (.d (.v (.int .i64 x2))))), (3, .one (.c (.fn 28 []))), (8, .one (.c (.d (.v (.int .i64 o1_1)))))], [some (.arr e0 5 (o1_0.map eEndpoint))]⟩ ∧ F55_l1 x1 x2 j o1_0 o1_1 = some o1) 1099511627776 [some 0] ⟨x0, (IntKind.i64.wrap (x1 + 1)), rfl, h⟩ ?_
  rintro j _ ⟨o1_0, o1_1, rfl, h⟩
  cases j with
  | zero => cases (show (none : Option _) = some _ from h)
  | succ j =>
   rw [F55_l1] at h
   refine ww ?_
   refine condSh h (fun c2 h => ?_) (fun c2 h => ?_)
   ·refine ww ?_
    obtain ⟨o3, ho, h⟩ := bi h
    refine cutS (fun s => s = ⟨[(0, .one (.c (.own 0 e0 0 (o3.length) none))), (1, .one (.c (.d (.v (.int .i64 x1))))), (2, .one (.c (.d (.v (.int .i64 x2))))), (3, .one (.c (.fn 28 []))), (8, .one (.c (.d (.v (.int .i64 o1_1)))))], [some (.arr e0 5 (o3.map eEndpoint))]⟩) ?_ ?_
    ·have h := ho
     clear ho
     refine ww ?_
     refine bL (fun j s => ∃ (o3_0 : List Endpoint) (o3_1 : Int), s = ⟨[(0, .one (.c (.own 0 e0 0 (o3_0.length) none))), (1, .one (.c (.d (.v (.int .i64 x1))))), (2, .one (.c (.d (.v (.int .i64 x2))))), (3, .one (.c (.fn 28 []))), (8, .one (.c (.d (.v (.int .i64 o1_1))))), (9, .one (.c (.d (.v (.int .i64 o3_1)))))], [some (.arr e0 5 (o3_0.map eEndpoint))]⟩ ∧ F55_l3 x1 j o3_0 o3_1 = some o3) 1099511627776 [some 0] ⟨o1_0, o1_1, rfl, h⟩ ?_
     rintro j _ ⟨o3_0, o3_1, rfl, h⟩
     cases j with
     | zero => cases (show (none : Option _) = some _ from h)
     | succ j =>
      rw [F55_l3] at h
      refine ww ?_
      obtain ⟨o4, ho, h⟩ := bi h
      refine cutS (fun s => s = ⟨[(0, .one (.c (.own 0 e0 0 (o3_0.length) none))), (1, .one (.c (.d (.v (.int .i64 x1))))), (2, .one (.c (.d (.v (.int .i64 x2))))), (3, .one (.c (.fn 28 []))), (8, .one (.c (.d (.v (.int .i64 o1_1))))), (9, .one (.c (.d (.v (.int .i64 o3_1))))), (34, .one (.c (.d (.v (.bool o4)))))], [some (.arr e0 5 (o3_0.map eEndpoint))]⟩) ?_ ?_
      ·have h := ho
       clear ho
       refine ww ?_
       refine guardDh h (fun g5 h => ?_) (fun g5 h => ?_)
       ·refine ww ?_
        obtain ⟨y6, hy6, h⟩ := bi h
        refine t_idxO (enc := eEndpoint) (xs := o3_0) rfl rfl rfl (by first | rfl | simp only [List.length_set] | exact (clrL_len (slI_len (by assumption))).symm) hy6 ?_
        refine ww ?_
        refine LdRow.rd (rdI_some hy6).2.1 ?_
        refine ww ?_
        obtain ⟨y7, hy7, h⟩ := bi h
        refine t_idxO (enc := eEndpoint) (xs := o3_0) rfl rfl rfl (by first | rfl | simp only [List.length_set] | exact (clrL_len (slI_len (by assumption))).symm) hy7 ?_
        refine ww ?_
        refine LdRow.rd (rdI_some hy7).2.1 ?_
        refine ww ?_
        obtain ⟨t8, ht8, h⟩ := bi h
        refine cN [] (F28_ok ht8) trivial ?_
        refine ww ?_
        obtain rfl := Option.some.inj h
        exact eM [some 0] rfl
       ·refine ww ?_
        obtain rfl := Option.some.inj h
        exact eM [some 0] rfl
      ·rintro _ rfl
       clear ho
       refine ww ?_
       refine condBh h (fun c9 h => ?_) (fun c9 h => ?_)
       ·refine ww ?_
        obtain ⟨y10, hy10, h⟩ := bi h
        refine t_idxO (enc := eEndpoint) (xs := o3_0) rfl rfl rfl (by first | rfl | simp only [List.length_set] | exact (clrL_len (slI_len (by assumption))).symm) hy10 ?_
        refine ww ?_
        refine LdRow.rd (rdI_some hy10).2.1 ?_
        refine ww ?_
        obtain ⟨y11, hy11, h⟩ := bi h
        refine t_idxO (enc := eEndpoint) (xs := o3_0) rfl rfl rfl (by first | rfl | simp only [List.length_set] | exact (clrL_len (slI_len (by assumption))).symm) hy11 ?_
        refine ww ?_
        refine LdRow.rd (rdI_some hy11).2.1 ?_
        refine ww ?_
        obtain ⟨y12, hy12, h⟩ := bi h
        refine t_idxO (enc := eEndpoint) (xs := o3_0) rfl rfl rfl (by first | rfl | simp only [List.length_set] | exact (clrL_len (slI_len (by assumption))).symm) hy12 ?_
        refine ww ?_
        refine StRow.rd (y' := y10) (rdI_some hy12).2.1 (by simp [EE.down]) (by first | rfl | (simp only [bor_full']; rfl)) ?_
        refine ww ?_
        obtain ⟨y13, hy13, h⟩ := bi h
        refine t_idxO (enc := eEndpoint) (xs := ((o3_0.set o3_1.toNat y10))) rfl rfl rfl (by first | rfl | simp only [List.length_set] | exact (clrL_len (slI_len (by assumption))).symm) hy13 ?_
        refine ww ?_
        refine StRow.rd (y' := y11) (rdI_some hy13).2.1 (by simp [EE.down]) (by first | rfl | (simp only [bor_full']; rfl)) ?_
        refine ww ?_
        exact eL' j [some 0] ⟨(((o3_0.set o3_1.toNat y10)).set ((IntKind.i64.wrap (o3_1 - 1))).toNat y11), (IntKind.i64.wrap (o3_1 - 1)), rfl, h⟩ (Nat.lt_succ_self _)
       ·refine ww ?_
        obtain rfl := Option.some.inj h
        exact eM [some 0] rfl
    ·rintro _ rfl
     clear ho
     refine ww ?_
     exact eL' j [some 0] ⟨o3, (IntKind.i64.wrap (o1_1 + 1)), rfl, h⟩ (Nat.lt_succ_self _)
   ·refine ww ?_
    obtain rfl := Option.some.inj h
    exact eM [some 0] rfl
 ·rintro _ rfl
  clear ho
  refine ww ?_
  obtain rfl := Option.some.inj h
  exact eF [some 0]

/- slices.swapRangeCmpFunc[orchestrator/api.Endpoint] -/
def F92_l1 (x1 : Int) (x2 : Int) (x3 : Int) : Nat → (List Endpoint) → Int → Option ((List Endpoint))
  | 0, _, _ => none
  | k + 1, o1_0, o1_1 => (if o1_1 < x3 then (rdI o1_0 ((IntKind.i64.wrap (x2 + o1_1)))).bind fun y3 => (rdI o1_0 ((IntKind.i64.wrap (x1 + o1_1)))).bind fun y4 => (rdI o1_0 ((IntKind.i64.wrap (x1 + o1_1)))).bind fun y5 => (rdI ((o1_0.set ((IntKind.i64.wrap (x1 + o1_1))).toNat y3)) ((IntKind.i64.wrap (x2 + o1_1)))).bind fun y6 => F92_l1 x1 x2 x3 k ((((o1_0.set ((IntKind.i64.wrap (x1 + o1_1))).toNat y3)).set ((IntKind.i64.wrap (x2 + o1_1))).toNat y4)) ((IntKind.i64.wrap (o1_1 + 1))) else some o1_0)
def F92i (x0 : (List Endpoint)) (x1 : Int) (x2 : Int) (x3 : Int) : Option ((List Endpoint)) := ((F92_l1 x1 x2 x3 1099511627776 x0 0).bind fun o1 => some o1)
def F92 (x0 : (List Endpoint)) (x1 : Int) (x2 : Int) (x3 : Int) : Option ((List Endpoint)) := (F92i x0 x1 x2 x3).bind fun r => if r.length = x0.length then some r else none
theorem F92_len0 {x0 : (List Endpoint)} {x1 : Int} {x2 : Int} {x3 : Int} {r : (List Endpoint)} (h : F92 x0 x1 x2 x3 = some r) : r.length = x0.length := (guard_some h).2
def a92 : AFn := ⟨38, [],
 (.seq (.reg [sq 10 (.mv (kI 0))])
 (.sem (.block 0 (.loop (.seq (.seq (.reg [sq 11 (.mv (.t 10)),
sq 12 (.mv (.t 3)),
sq 13 (.bin .lss (.t 11) (.t 12))])
 (.cond (.t 13)
 .skip
 (.exit 0)))
 (.seq (.block 1 (.regd [sq 16 (.mv (.t 0)),
sq 17 (.mv (.t 1)),
sq 18 (.mv (.t 10)),
sd 19 (.bin .add (.t 17) (.t 18)) [1, 2],
sq 20 (.mv (.t 0)),
sq 21 (.mv (.t 2)),
sq 22 (.mv (.t 10)),
sd 23 (.bin .add (.t 21) (.t 22)) [5, 6],
sq 24 (.mv (.t 0)),
sq 25 (.mv (.t 2)),
sq 26 (.mv (.t 10)),
sd 27 (.bin .add (.t 25) (.t 26)) [9, 10],
sd 28 (.indexA 5 (.t 24) (.t 27)) [8, 9, 10, 11],
sd 29 (.load (some 5) (.t 28)) [8, 9, 10, 11, 12],
sq 30 (.mv (.t 0)),
sq 31 (.mv (.t 1)),
sq 32 (.mv (.t 10)),
sd 33 (.bin .add (.t 31) (.t 32)) [15, 16],
sd 34 (.indexA 5 (.t 30) (.t 33)) [14, 15, 16, 17],
sd 35 (.load (some 5) (.t 34)) [14, 15, 16, 17, 18],
sd 36 (.indexA 5 (.t 16) (.t 19)) [0, 1, 2, 3, 8, 9, 10, 11, 12, 13, 14, 15, 16, 17, 18, 19],
⟨none, none, .store 5 (.t 36) (.t 29), [0, 1, 2, 3, 8, 9, 10, 11, 12, 13, 14, 15, 16, 17, 18, 19, 20], (.lone [])⟩,
sd 37 (.indexA 5 (.t 20) (.t 23)) [0, 1, 2, 3, 4, 5, 6, 7, 8, 9, 10, 11, 12, 13, 14, 15, 16, 17, 18, 19, 20, 21],
⟨none, none, .store 5 (.t 37) (.t 35), [0, 1, 2, 3, 4, 5, 6, 7, 8, 9, 10, 11, 12, 13, 14, 15, 16, 17, 18, 19, 20, 21, 22], (.lone [])⟩]))
 (.reg [sq 14 (.mv (.t 10)),
sq 15 (.bin .add (.t 14) (kI 1)),
sq 10 (.mv (.t 15))])))))))⟩
theorem a92_ok : afn Try.prog 92 = some a92.er := by kernel_rfl
theorem F92_ok {x0 : (List Endpoint)} {x1 : Int} {x2 : Int} {x3 : Int} {r : (List Endpoint)} {e0 : Nat} (h : F92 x0 x1 x2 x3 = some r) : CallD Try.prog 92 [.c (.own 0 e0 0 (x0.length) none), .c (.d (.v (.int .i64 x1))), .c (.d (.v (.int .i64 x2))), .c (.d (.v (.int .i64 x3))), .c (.fn 28 [])] [some (.arr e0 5 (x0.map eEndpoint))] (tupV []) [some (.arr e0 5 (r.map eEndpoint))] := by
 replace h := (guard_some h).1
 refine callS a92_ok (by simp [a92]) ?_
 rw [F92i] at h
 simp only [a92, VW.down, Nat.reduceEqDiff, reduceCtorEq, Nat.reduceAdd, Nat.reduceLeDiff, Nat.reduceLT, Nat.reduceBEq, Nat.reduceSub, EE.down]
 obtain ⟨o1, ho, h⟩ := bi h
 refine cutS (fun s => s = ⟨[], [some (.arr e0 5 (o1.map eEndpoint))]⟩) ?_ ?_
 ·have h := ho
  clear ho
  refine ww ?_
  refine bL (fun j s => ∃ (o1_0 : List Endpoint) (o1_1 : Int), s = ⟨[(0, .one (.c (.own 0 e0 0 (o1_0.length) none))), (1, .one (.c (.d (.v (.int .i64 x1))))), (2, .one (.c (.d (.v (.int .i64 x2))))), (3, .one (.c (.d (.v (.int .i64 x3))))), (10, .one (.c (.d (.v (.int .i64 o1_1)))))], [some (.arr e0 5 (o1_0.map eEndpoint))]⟩ ∧ F92_l1 x1 x2 x3 j o1_0 o1_1 = some o1) 1099511627776 [some 0] ⟨x0, 0, rfl, h⟩ ?_
  rintro j _ ⟨o1_0, o1_1, rfl, h⟩
  cases j with
  | zero => cases (show (none : Option _) = some _ from h)
  | succ j =>
   rw [F92_l1] at h
   refine ww ?_
   refine condSh h (fun c2 h => ?_) (fun c2 h => ?_)
   ·refine ww ?_
    obtain ⟨y3, hy3, h⟩ := bi h
    refine t_idxO (enc := eEndpoint) (xs := o1_0) rfl rfl rfl (by first | rfl | simp only [List.length_set] | exact (clrL_len (slI_len (by assumption))).symm) hy3 ?_
    refine ww ?_
    refine LdRow.rd (rdI_some hy3).2.1 ?_
    refine ww ?_
    obtain ⟨y4, hy4, h⟩ := bi h
    refine t_idxO (enc := eEndpoint) (xs := o1_0) rfl rfl rfl (by first | rfl | simp only [List.length_set] | exact (clrL_len (slI_len (by assumption))).symm) hy4 ?_
    refine ww ?_
    refine LdRow.rd (rdI_some hy4).2.1 ?_
    refine ww ?_
    obtain ⟨y5, hy5, h⟩ := bi h
    refine t_idxO (enc := eEndpoint) (xs := o1_0) rfl rfl rfl (by first | rfl | simp only [List.length_set] | exact (clrL_len (slI_len (by assumption))).symm) hy5 ?_
    refine ww ?_
    refine StRow.rd (y' := y3) (rdI_some hy5).2.1 (by simp [EE.down]) (by first | rfl | (simp only [bor_full']; rfl)) ?_
    refine ww ?_
    obtain ⟨y6, hy6, h⟩ := bi h
    refine t_idxO (enc := eEndpoint) (xs := ((o1_0.set ((IntKind.i64.wrap (x1 + o1_1))).toNat y3))) rfl rfl rfl (by first | rfl | simp only [List.length_set] | exact (clrL_len (slI_len (by assumption))).symm) hy6 ?_
    refine ww ?_
    refine StRow.rd (y' := y4) (rdI_some hy6).2.1 (by simp [EE.down]) (by first | rfl | (simp only [bor_full']; rfl)) ?_
    refine ww ?_
    exact eL' j [some 0] ⟨(((o1_0.set ((IntKind.i64.wrap (x1 + o1_1))).toNat y3)).set ((IntKind.i64.wrap (x2 + o1_1))).toNat y4), (IntKind.i64.wrap (o1_1 + 1)), rfl, h⟩ (Nat.lt_succ_self _)
   ·refine ww ?_
    obtain rfl := Option.some.inj h
    exact eM [some 0] rfl
 ·rintro _ rfl
  clear ho
  refine ww ?_
  obtain rfl := Option.some.inj h
  exact eF [some 0]

/- slices.rotateCmpFunc[orchestrator/api.Endpoint] -/
def F75_l1 (x2 : Int) : Nat → (List Endpoint) → Int → Int → Option ((List Endpoint) × Int)
  | 0, _, _, _ => none
  | k + 1, o1_0, o1_1, o1_2 => (if ¬ (o1_1 = o1_2) then (if o1_2 < o1_1 then (F92 o1_0 ((IntKind.i64.wrap (x2 - o1_1))) x2 o1_2).bind fun t4 => F75_l1 x2 k t4 ((IntKind.i64.wrap (o1_1 - o1_2))) o1_2 else (F92 o1_0 ((IntKind.i64.wrap (x2 - o1_1))) ((IntKind.i64.wrap (((IntKind.i64.wrap (x2 + o1_2))) - o1_1))) o1_1).bind fun t5 => F75_l1 x2 k t5 o1_1 ((IntKind.i64.wrap (o1_2 - o1_1)))) else some ((o1_0, o1_1)))
def F75i (x0 : (List Endpoint)) (x1 : Int) (x2 : Int) (x3 : Int) : Option ((List Endpoint)) := ((F75_l1 x2 1099511627776 x0 ((IntKind.i64.wrap (x2 - x1))) ((IntKind.i64.wrap (x3 - x2)))).bind fun o1 => (F92 o1.1 ((IntKind.i64.wrap (x2 - o1.2))) x2 o1.2).bind fun t6 => some t6)
def F75 (x0 : (List Endpoint)) (x1 : Int) (x2 : Int) (x3 : Int) : Option ((List Endpoint)) := (F75i x0 x1 x2 x3).bind fun r => if r.length = x0.length then some r else none
theorem F75_len0 {x0 : (List Endpoint)} {x1 : Int} {x2 : Int} {x3 : Int} {r : (List Endpoint)} (h : F75 x0 x1 x2 x3 = some r) : r.length = x0.length := (guard_some h).2
def a75 : AFn := ⟨58, [],
 (.seq (.reg [sq 12 (.mv (.t 2)),
sq 13 (.mv (.t 1)),
sq 14 (.bin .sub (.t 12) (.t 13)),
sq 10 (.mv (.t 14))])
 (.seq (.reg [sq 15 (.mv (.t 3)),
sq 16 (.mv (.t 2)),
sq 17 (.bin .sub (.t 15) (.t 16)),
sq 11 (.mv (.t 17))])
 (.seq (.sem (.block 0 (.loop (.seq (.seq (.reg [sq 18 (.mv (.t 10)),
sq 19 (.mv (.t 11)),
sq 20 (.bin .neq (.t 18) (.t 19))])
 (.cond (.t 20)
 .skip
 (.exit 0)))
 (.block 1 (.seq (.reg [sq 21 (.mv (.t 10)),
sq 22 (.mv (.t 11)),
sq 23 (.bin .gtr (.t 21) (.t 22))])
 (.cond (.t 23)
 (.seq (.reg [sq 24 (.mv (.t 0)),
sq 25 (.mv (.t 2)),
sq 26 (.mv (.t 10)),
sq 27 (.bin .sub (.t 25) (.t 26)),
sq 28 (.mv (.t 2)),
sq 29 (.mv (.t 11)),
sq 30 (.mv (.t 4)),
⟨(some 31), none, .call 92 [(.t 24), (.t 27), (.t 28), (.t 29), (.t 30)], [], (.lone [])⟩])
 (.reg [sq 32 (.mv (.t 10)),
sq 33 (.mv (.t 11)),
sq 34 (.bin .sub (.t 32) (.t 33)),
sq 10 (.mv (.t 34))]))
 (.seq (.reg [sq 35 (.mv (.t 0)),
sq 36 (.mv (.t 2)),
sq 37 (.mv (.t 10)),
sq 38 (.bin .sub (.t 36) (.t 37)),
sq 39 (.mv (.t 2)),
sq 40 (.mv (.t 11)),
sq 41 (.bin .add (.t 39) (.t 40)),
sq 42 (.mv (.t 10)),
sq 43 (.bin .sub (.t 41) (.t 42)),
sq 44 (.mv (.t 10)),
sq 45 (.mv (.t 4)),
⟨(some 46), none, .call 92 [(.t 35), (.t 38), (.t 43), (.t 44), (.t 45)], [], (.lone [])⟩])
 (.reg [sq 47 (.mv (.t 11)),
sq 48 (.mv (.t 10)),
sq 49 (.bin .sub (.t 47) (.t 48)),
sq 11 (.mv (.t 49))])))))))))
 (.reg [sq 50 (.mv (.t 0)),
sq 51 (.mv (.t 2)),
sq 52 (.mv (.t 10)),
sq 53 (.bin .sub (.t 51) (.t 52)),
sq 54 (.mv (.t 2)),
sq 55 (.mv (.t 10)),
sq 56 (.mv (.t 4)),
⟨(some 57), none, .call 92 [(.t 50), (.t 53), (.t 54), (.t 55), (.t 56)], [], (.lone [])⟩]))))⟩
theorem a75_ok : afn Try.prog 75 = some a75.er := by kernel_rfl
theorem F75_ok {x0 : (List Endpoint)} {x1 : Int} {x2 : Int} {x3 : Int} {r : (List Endpoint)} {e0 : Nat} (h : F75 x0 x1 x2 x3 = some r) : CallD Try.prog 75 [.c (.own 0 e0 0 (x0.length) none), .c (.d (.v (.int .i64 x1))), .c (.d (.v (.int .i64 x2))), .c (.d (.v (.int .i64 x3))), .c (.fn 28 [])] [some (.arr e0 5 (x0.map eEndpoint))] (tupV []) [some (.arr e0 5 (r.map eEndpoint))] := by
 replace h := (guard_some h).1
 refine callS a75_ok (by simp [a75]) ?_
 rw [F75i] at h
 simp only [a75, VW.down, Nat.reduceEqDiff, reduceCtorEq, Nat.reduceAdd, Nat.reduceLeDiff, Nat.reduceLT, Nat.reduceBEq, Nat.reduceSub, EE.down]
 obtain ⟨o1, ho, h⟩ := bi h
 refine cutS (fun s => s = ⟨[(0, .one (.c (.own 0 e0 0 (o1.1.length) none))), (2, .one (.c (.d (.v (.int .i64 x2))))), (4, .one (.c (.fn 28 []))), (10, .one (.c (.d (.v (.int .i64 o1.2)))))], [some (.arr e0 5 (o1.1.map eEndpoint))]⟩) ?_ ?_
 ·have h := ho
  clear ho
  refine ww ?_
  refine bL (fun j s => ∃ (o1_0 : List Endpoint) (o1_1 : Int) (o1_2 : Int), s = ⟨[(0, .one (.c (.own 0 e0 0 (o1_0.length) none))), (2, .one (.c (.d (.v (.int .i64 x2))))), (4, .one (.c (.fn 28 []))), (10, .one (.c (.d (.v (.int .i64 o1_1))))), (11, .one (.c (.d (.v (.int .i64 o1_2)))))], [some (.arr e0 5 (o1_0.map eEndpoint))]⟩ ∧ F75_l1 x2 j o1_0 o1_1 o1_2 = some o1) 1099511627776 [some 0] ⟨x0, (IntKind.i64.wrap (x2 - x1)), (IntKind.i64.wrap (x3 - x2)), rfl, h⟩ ?_
  rintro j _ ⟨o1_0, o1_1, o1_2, rfl, h⟩
  cases j with
  | zero => cases (show (none : Option _) = some _ from h)
  | succ j =>
   rw [F75_l1] at h
   refine ww ?_
   refine condSh h (fun c2 h => ?_) (fun c2 h => ?_)
   ·refine ww ?_
    refine condSh h (fun c3 h => ?_) (fun c3 h => ?_)
    ·refine ww ?_
     obtain ⟨t4, ht4, h⟩ := bi h
     refine cN [0] (F92_ok (e0 := e0) ht4) ⟨⟨rfl, trivial⟩, trivial⟩ ?_
     refine ww ?_
     exact eL' j [some 0] ⟨t4, (IntKind.i64.wrap (o1_1 - o1_2)), o1_2, rfl, h⟩ (Nat.lt_succ_self _) (hB := by simp only [ZZ.down, Nat.reduceEqDiff, reduceCtorEq, Nat.reduceAdd, Nat.reduceLeDiff, Nat.reduceLT, Nat.reduceBNe, EE.down, F92_len0 ht4]) (hs := by simp only [ZZ.down, Nat.reduceEqDiff, reduceCtorEq, Nat.reduceAdd, Nat.reduceLeDiff, Nat.reduceLT, Nat.reduceBNe, EE.down, F92_len0 ht4])
    ·refine ww ?_
     obtain ⟨t5, ht5, h⟩ := bi h
     refine cN [0] (F92_ok (e0 := e0) ht5) ⟨⟨rfl, trivial⟩, trivial⟩ ?_
     refine ww ?_
     exact eL' j [some 0] ⟨t5, o1_1, (IntKind.i64.wrap (o1_2 - o1_1)), rfl, h⟩ (Nat.lt_succ_self _) (hB := by simp only [ZZ.down, Nat.reduceEqDiff, reduceCtorEq, Nat.reduceAdd, Nat.reduceLeDiff, Nat.reduceLT, Nat.reduceBNe, EE.down, F92_len0 ht5]) (hs := by simp only [ZZ.down, Nat.reduceEqDiff, reduceCtorEq, Nat.reduceAdd, Nat.reduceLeDiff, Nat.reduceLT, Nat.reduceBNe, EE.down, F92_len0 ht5])
   ·refine ww ?_
    obtain rfl := Option.some.inj h
    exact eM [some 0] rfl
 ·rintro _ rfl
  clear ho
  refine ww ?_
  obtain ⟨t6, ht6, h⟩ := bi h
  refine cN [0] (F92_ok (e0 := e0) ht6) ⟨⟨rfl, trivial⟩, trivial⟩ ?_
  refine ww ?_
  obtain rfl := Option.some.inj h
  exact eF [some 0] (hB := by simp only [ZZ.down, Nat.reduceEqDiff, reduceCtorEq, Nat.reduceAdd, Nat.reduceLeDiff, Nat.reduceLT, Nat.reduceBNe, EE.down, F92_len0 ht6]) (hs := by simp only [ZZ.down, Nat.reduceEqDiff, reduceCtorEq, Nat.reduceAdd, Nat.reduceLeDiff, Nat.reduceLT, Nat.reduceBNe, EE.down, F92_len0 ht6])

/- slices.symMergeCmpFunc[orchestrator/api.Endpoint] -/
def F56_l2 (x0 : (List Endpoint)) (x1 : Int) : Nat → Int → Int → Option (Int)
  | 0, _, _ => none
  | k + 1, o2_0, o2_1 => (if o2_0 < o2_1 then (rdI x0 ((IntKind.i64.wrap ((shrV .u64 ((IntKind.u64.wrap ((IntKind.i64.wrap (o2_0 + o2_1))))) 1))))).bind fun y4 => (rdI x0 x1).bind fun y5 => (F28 y4 y5).bind fun t6 => (if t6 < 0 then F56_l2 x0 x1 k ((IntKind.i64.wrap (((IntKind.i64.wrap ((shrV .u64 ((IntKind.u64.wrap ((IntKind.i64.wrap (o2_0 + o2_1))))) 1)))) + 1))) o2_1 else F56_l2 x0 x1 k o2_0 ((IntKind.i64.wrap ((shrV .u64 ((IntKind.u64.wrap ((IntKind.i64.wrap (o2_0 + o2_1))))) 1))))) else some o2_0)
def F56_l8 (o2 : Int) : Nat → (List Endpoint) → Int → Option ((List Endpoint))
  | 0, _, _ => none
  | k + 1, o8_0, o8_1 => (if o8_1 < (IntKind.i64.wrap (o2 - 1)) then (rdI o8_0 ((IntKind.i64.wrap (o8_1 + 1)))).bind fun y10 => (rdI o8_0 o8_1).bind fun y11 => (rdI o8_0 o8_1).bind fun y12 => (rdI ((o8_0.set o8_1.toNat y10)) ((IntKind.i64.wrap (o8_1 + 1)))).bind fun y13 => F56_l8 o2 k ((((o8_0.set o8_1.toNat y10)).set ((IntKind.i64.wrap (o8_1 + 1))).toNat y11)) ((IntKind.i64.wrap (o8_1 + 1))) else some o8_0)
def F56_l15 (x0 : (List Endpoint)) (x2 : Int) : Nat → Int → Int → Option (Int)
  | 0, _, _ => none
  | k + 1, o15_0, o15_1 => (if o15_0 < o15_1 then (rdI x0 x2).bind fun y17 => (rdI x0 ((IntKind.i64.wrap ((shrV .u64 ((IntKind.u64.wrap ((IntKind.i64.wrap (o15_0 + o15_1))))) 1))))).bind fun y18 => (F28 y17 y18).bind fun t19 => (if ¬ (t19 < 0) then F56_l15 x0 x2 k ((IntKind.i64.wrap (((IntKind.i64.wrap ((shrV .u64 ((IntKind.u64.wrap ((IntKind.i64.wrap (o15_0 + o15_1))))) 1)))) + 1))) o15_1 else F56_l15 x0 x2 k o15_0 ((IntKind.i64.wrap ((shrV .u64 ((IntKind.u64.wrap ((IntKind.i64.wrap (o15_0 + o15_1))))) 1))))) else some o15_0)
def F56_l21 (o15 : Int) : Nat → (List Endpoint) → Int → Option ((List Endpoint))
  | 0, _, _ => none
  | k + 1, o21_0, o21_1 => (if o15 < o21_1 then (rdI o21_0 ((IntKind.i64.wrap (o21_1 - 1)))).bind fun y23 => (rdI o21_0 o21_1).bind fun y24 => (rdI o21_0 o21_1).bind fun y25 => (rdI ((o21_0.set o21_1.toNat y23)) ((IntKind.i64.wrap (o21_1 - 1)))).bind fun y26 => F56_l21 o15 k ((((o21_0.set o21_1.toNat y23)).set ((IntKind.i64.wrap (o21_1 - 1))).toNat y24)) ((IntKind.i64.wrap (o21_1 - 1))) else some o21_0)
def F56_l29 (x0 : (List Endpoint)) (x1 : Int) (x2 : Int) (x3 : Int) : Nat → Int → Int → Option (Int)
  | 0, _, _ => none
  | k + 1, o29_0, o29_1 => (if o29_0 < o29_1 then (rdI x0 ((IntKind.i64.wrap (((IntKind.i64.wrap (((IntKind.i64.wrap (((IntKind.i64.wrap ((shrV .u64 ((IntKind.u64.wrap ((IntKind.i64.wrap (x1 + x3))))) 1)))) + x2))) - 1))) - ((IntKind.i64.wrap ((shrV .u64 ((IntKind.u64.wrap ((IntKind.i64.wrap (o29_0 + o29_1))))) 1)))))))).bind fun y31 => (rdI x0 ((IntKind.i64.wrap ((shrV .u64 ((IntKind.u64.wrap ((IntKind.i64.wrap (o29_0 + o29_1))))) 1))))).bind fun y32 => (F28 y31 y32).bind fun t33 => (if ¬ (t33 < 0) then F56_l29 x0 x1 x2 x3 k ((IntKind.i64.wrap (((IntKind.i64.wrap ((shrV .u64 ((IntKind.u64.wrap ((IntKind.i64.wrap (o29_0 + o29_1))))) 1)))) + 1))) o29_1 else F56_l29 x0 x1 x2 x3 k o29_0 ((IntKind.i64.wrap ((shrV .u64 ((IntKind.u64.wrap ((IntKind.i64.wrap (o29_0 + o29_1))))) 1))))) else some o29_0)
def F56i (rc26 : (List Endpoint) → Int → Int → Int → Option ((List Endpoint))) (x0 : (List Endpoint)) (x1 : Int) (x2 : Int) (x3 : Int) : Option ((List Endpoint)) := (if (IntKind.i64.wrap (x2 - x1)) = 1 then ((F56_l2 x0 x1 1099511627776 x2 x3).bind fun o2 => ((F56_l8 o2 1099511627776 x0 x1).bind fun o8 => some o8)) else (if (IntKind.i64.wrap (x3 - x2)) = 1 then ((F56_l15 x0 x2 1099511627776 x1 x2).bind fun o15 => ((F56_l21 o15 1099511627776 x0 x2).bind fun o21 => some o21)) else (((if (IntKind.i64.wrap ((shrV .u64 ((IntKind.u64.wrap ((IntKind.i64.wrap (x1 + x3))))) 1))) < x2 then some (((IntKind.i64.wrap (((IntKind.i64.wrap (((IntKind.i64.wrap ((shrV .u64 ((IntKind.u64.wrap ((IntKind.i64.wrap (x1 + x3))))) 1)))) + x2))) - x3)), (IntKind.i64.wrap ((shrV .u64 ((IntKind.u64.wrap ((IntKind.i64.wrap (x1 + x3))))) 1))))) else some ((x1, x2)))).bind fun o27 => ((F56_l29 x0 x1 x2 x3 1099511627776 o27.1 o27.2).bind fun o29 => (((((if o29 < x2 then some (decide (x2 < (IntKind.i64.wrap (((IntKind.i64.wrap (((IntKind.i64.wrap ((shrV .u64 ((IntKind.u64.wrap ((IntKind.i64.wrap (x1 + x3))))) 1)))) + x2))) - o29)))) else some false)).bind fun o36 => (if o36 = true then (F75 x0 o29 x2 ((IntKind.i64.wrap (((IntKind.i64.wrap (((IntKind.i64.wrap ((shrV .u64 ((IntKind.u64.wrap ((IntKind.i64.wrap (x1 + x3))))) 1)))) + x2))) - o29)))).bind fun t39 => some t39 else some x0))).bind fun o35 => (((((if x1 < o29 then some (decide (o29 < (IntKind.i64.wrap ((shrV .u64 ((IntKind.u64.wrap ((IntKind.i64.wrap (x1 + x3))))) 1))))) else some false)).bind fun o41 => (if o41 = true then (rc26 o35 x1 o29 ((IntKind.i64.wrap ((shrV .u64 ((IntKind.u64.wrap ((IntKind.i64.wrap (x1 + x3))))) 1))))).bind fun t44 => some t44 else some o35))).bind fun o40 => (((if (IntKind.i64.wrap ((shrV .u64 ((IntKind.u64.wrap ((IntKind.i64.wrap (x1 + x3))))) 1))) < (IntKind.i64.wrap (((IntKind.i64.wrap (((IntKind.i64.wrap ((shrV .u64 ((IntKind.u64.wrap ((IntKind.i64.wrap (x1 + x3))))) 1)))) + x2))) - o29)) then some (decide ((IntKind.i64.wrap (((IntKind.i64.wrap (((IntKind.i64.wrap ((shrV .u64 ((IntKind.u64.wrap ((IntKind.i64.wrap (x1 + x3))))) 1)))) + x2))) - o29)) < x3)) else some false)).bind fun o45 => (if o45 = true then (rc26 o40 ((IntKind.i64.wrap ((shrV .u64 ((IntKind.u64.wrap ((IntKind.i64.wrap (x1 + x3))))) 1)))) ((IntKind.i64.wrap (((IntKind.i64.wrap (((IntKind.i64.wrap ((shrV .u64 ((IntKind.u64.wrap ((IntKind.i64.wrap (x1 + x3))))) 1)))) + x2))) - o29))) x3).bind fun t48 => some t48 else some o40))))))))
def F56 (rc26 : (List Endpoint) → Int → Int → Int → Option ((List Endpoint))) (x0 : (List Endpoint)) (x1 : Int) (x2 : Int) (x3 : Int) : Option ((List Endpoint)) := (F56i rc26 x0 x1 x2 x3).bind fun r => if r.length = x0.length then some r else none
theorem F56_len0 {rc26 : (List Endpoint) → Int → Int → Int → Option ((List Endpoint))} {x0 : (List Endpoint)} {x1 : Int} {x2 : Int} {x3 : Int} {r : (List Endpoint)} (h : F56 rc26 x0 x1 x2 x3 = some r) : r.length = x0.length := (guard_some h).2
def a56 : AFn := ⟨220, [],
 (.seq (.seq (.reg [sq 25 (.mv (.t 2)),
sq 26 (.mv (.t 1)),
sq 27 (.bin .sub (.t 25) (.t 26)),
sq 28 (.bin .eql (.t 27) (kI 1))])
 (.cond (.t 28)
 (.seq (.reg [sq 29 (.mv (.t 2)),
sq 10 (.mv (.t 29))])
 (.seq (.reg [sq 30 (.mv (.t 3)),
sq 11 (.mv (.t 30))])
 (.seq (.sem (.block 0 (.loop (.seq (.seq (.reg [sq 31 (.mv (.t 10)),
sq 32 (.mv (.t 11)),
sq 33 (.bin .lss (.t 31) (.t 32))])
 (.cond (.t 33)
 .skip
 (.exit 0)))
 (.block 1 (.seq (.reg [sq 34 (.mv (.t 10)),
sq 35 (.mv (.t 11)),
sq 36 (.bin .add (.t 34) (.t 35)),
sq 37 (.conv .u64 (.t 36)),
sq 38 (.bin .shr (.t 37) (.k (.c (.d (.v (.int .u64 1)))))),
sq 39 (.conv .i64 (.t 38)),
sq 12 (.mv (.t 39))])
 (.seq (.regd [sq 40 (.mv (.t 4)),
sq 41 (.mv (.t 0)),
sq 42 (.mv (.t 12)),
sd 43 (.indexA 5 (.t 41) (.t 42)) [1, 2],
sd 44 (.load (some 5) (.t 43)) [1, 2, 3],
sq 45 (.mv (.t 0)),
sq 46 (.mv (.t 1)),
sd 47 (.indexA 5 (.t 45) (.t 46)) [5, 6],
sd 48 (.load (some 5) (.t 47)) [5, 6, 7],
⟨(some 49), none, .callv (.t 40) [(.t 44), (.t 48)], [0, 1, 2, 3, 4, 5, 6, 7, 8], (.lone [])⟩,
sd 50 (.bin .lss (.t 49) (kI 0)) [0, 1, 2, 3, 4, 5, 6, 7, 8, 9]])
 (.cond (.t 50)
 (.reg [sq 51 (.mv (.t 12)),
sq 52 (.bin .add (.t 51) (kI 1)),
sq 10 (.mv (.t 52))])
 (.reg [sq 53 (.mv (.t 12)),
sq 11 (.mv (.t 53))])))))))))
 (.seq (.seq (.reg [sq 54 (.mv (.t 1)),
sq 13 (.mv (.t 54))])
 (.sem (.block 2 (.loop (.seq (.seq (.reg [sq 55 (.mv (.t 13)),
sq 56 (.mv (.t 10)),
sq 57 (.bin .sub (.t 56) (kI 1)),
sq 58 (.bin .lss (.t 55) (.t 57))])
 (.cond (.t 58)
 .skip
 (.exit 2)))
 (.seq (.block 3 (.regd [sq 61 (.mv (.t 0)),
sq 62 (.mv (.t 13)),
sq 63 (.mv (.t 0)),
sq 64 (.mv (.t 13)),
sd 65 (.bin .add (.t 64) (kI 1)) [3],
sq 66 (.mv (.t 0)),
sq 67 (.mv (.t 13)),
sd 68 (.bin .add (.t 67) (kI 1)) [6],
sd 69 (.indexA 5 (.t 66) (.t 68)) [5, 6, 7],
sd 70 (.load (some 5) (.t 69)) [5, 6, 7, 8],
sq 71 (.mv (.t 0)),
sq 72 (.mv (.t 13)),
sd 73 (.indexA 5 (.t 71) (.t 72)) [10, 11],
sd 74 (.load (some 5) (.t 73)) [10, 11, 12],
sd 75 (.indexA 5 (.t 61) (.t 62)) [0, 1, 5, 6, 7, 8, 9, 10, 11, 12, 13],
⟨none, none, .store 5 (.t 75) (.t 70), [0, 1, 5, 6, 7, 8, 9, 10, 11, 12, 13, 14], (.lone [])⟩,
sd 76 (.indexA 5 (.t 63) (.t 65)) [0, 1, 2, 3, 4, 5, 6, 7, 8, 9, 10, 11, 12, 13, 14, 15],
⟨none, none, .store 5 (.t 76) (.t 74), [0, 1, 2, 3, 4, 5, 6, 7, 8, 9, 10, 11, 12, 13, 14, 15, 16], (.lone [])⟩]))
 (.reg [sq 59 (.mv (.t 13)),
sq 60 (.bin .add (.t 59) (kI 1)),
sq 13 (.mv (.t 60))])))))))
 .ret))))
 .skip))
 (.seq (.seq (.reg [sq 77 (.mv (.t 3)),
sq 78 (.mv (.t 2)),
sq 79 (.bin .sub (.t 77) (.t 78)),
sq 80 (.bin .eql (.t 79) (kI 1))])
 (.cond (.t 80)
 (.seq (.reg [sq 81 (.mv (.t 1)),
sq 14 (.mv (.t 81))])
 (.seq (.reg [sq 82 (.mv (.t 2)),
sq 15 (.mv (.t 82))])
 (.seq (.sem (.block 4 (.loop (.seq (.seq (.reg [sq 83 (.mv (.t 14)),
sq 84 (.mv (.t 15)),
sq 85 (.bin .lss (.t 83) (.t 84))])
 (.cond (.t 85)
 .skip
 (.exit 4)))
 (.block 5 (.seq (.reg [sq 86 (.mv (.t 14)),
sq 87 (.mv (.t 15)),
sq 88 (.bin .add (.t 86) (.t 87)),
sq 89 (.conv .u64 (.t 88)),
sq 90 (.bin .shr (.t 89) (.k (.c (.d (.v (.int .u64 1)))))),
sq 91 (.conv .i64 (.t 90)),
sq 16 (.mv (.t 91))])
 (.seq (.regd [sq 92 (.mv (.t 4)),
sq 93 (.mv (.t 0)),
sq 94 (.mv (.t 2)),
sd 95 (.indexA 5 (.t 93) (.t 94)) [1, 2],
sd 96 (.load (some 5) (.t 95)) [1, 2, 3],
sq 97 (.mv (.t 0)),
sq 98 (.mv (.t 16)),
sd 99 (.indexA 5 (.t 97) (.t 98)) [5, 6],
sd 100 (.load (some 5) (.t 99)) [5, 6, 7],
⟨(some 101), none, .callv (.t 92) [(.t 96), (.t 100)], [0, 1, 2, 3, 4, 5, 6, 7, 8], (.lone [])⟩,
sd 102 (.bin .lss (.t 101) (kI 0)) [0, 1, 2, 3, 4, 5, 6, 7, 8, 9],
sd 103 (.not (.t 102)) [0, 1, 2, 3, 4, 5, 6, 7, 8, 9, 10]])
 (.cond (.t 103)
 (.reg [sq 104 (.mv (.t 16)),
sq 105 (.bin .add (.t 104) (kI 1)),
sq 14 (.mv (.t 105))])
 (.reg [sq 106 (.mv (.t 16)),
sq 15 (.mv (.t 106))])))))))))
 (.seq (.seq (.reg [sq 107 (.mv (.t 2)),
sq 17 (.mv (.t 107))])
 (.sem (.block 6 (.loop (.seq (.seq (.reg [sq 108 (.mv (.t 17)),
sq 109 (.mv (.t 14)),
sq 110 (.bin .gtr (.t 108) (.t 109))])
 (.cond (.t 110)
 .skip
 (.exit 6)))
 (.seq (.block 7 (.regd [sq 113 (.mv (.t 0)),
sq 114 (.mv (.t 17)),
sq 115 (.mv (.t 0)),
sq 116 (.mv (.t 17)),
sd 117 (.bin .sub (.t 116) (kI 1)) [3],
sq 118 (.mv (.t 0)),
sq 119 (.mv (.t 17)),
sd 120 (.bin .sub (.t 119) (kI 1)) [6],
sd 121 (.indexA 5 (.t 118) (.t 120)) [5, 6, 7],
sd 122 (.load (some 5) (.t 121)) [5, 6, 7, 8],
sq 123 (.mv (.t 0)),
sq 124 (.mv (.t 17)),
sd 125 (.indexA 5 (.t 123) (.t 124)) [10, 11],
sd 126 (.load (some 5) (.t 125)) [10, 11, 12],
sd 127 (.indexA 5 (.t 113) (.t 114)) [0, 1, 5, 6, 7, 8, 9, 10, 11, 12, 13],
⟨none, none, .store 5 (.t 127) (.t 122), [0, 1, 5, 6, 7, 8, 9, 10, 11, 12, 13, 14], (.lone [])⟩,
sd 128 (.indexA 5 (.t 115) (.t 117)) [0, 1, 2, 3, 4, 5, 6, 7, 8, 9, 10, 11, 12, 13, 14, 15],
⟨none, none, .store 5 (.t 128) (.t 126), [0, 1, 2, 3, 4, 5, 6, 7, 8, 9, 10, 11, 12, 13, 14, 15, 16], (.lone [])⟩]))
 (.reg [sq 111 (.mv (.t 17)),
sq 112 (.bin .sub (.t 111) (kI 1)),
sq 17 (.mv (.t 112))])))))))
 .ret))))
 .skip))
 (.seq (.reg [sq 129 (.mv (.t 1)),
sq 130 (.mv (.t 3)),
sq 131 (.bin .add (.t 129) (.t 130)),
sq 132 (.conv .u64 (.t 131)),
sq 133 (.bin .shr (.t 132) (.k (.c (.d (.v (.int .u64 1)))))),
sq 134 (.conv .i64 (.t 133)),
sq 18 (.mv (.t 134))])
 (.seq (.reg [sq 135 (.mv (.t 18)),
sq 136 (.mv (.t 2)),
sq 137 (.bin .add (.t 135) (.t 136)),
sq 19 (.mv (.t 137))])
 (.seq (.reg [sq 20 (.mv (kI 0)),
sq 21 (.mv (kI 0))])
 (.seq (.sem (.seq (.reg [sq 138 (.mv (.t 2)),
sq 139 (.mv (.t 18)),
sq 140 (.bin .gtr (.t 138) (.t 139))])
 (.cond (.t 140)
 (.seq (.reg [sq 141 (.mv (.t 19)),
sq 142 (.mv (.t 3)),
sq 143 (.bin .sub (.t 141) (.t 142)),
sq 20 (.mv (.t 143))])
 (.reg [sq 144 (.mv (.t 18)),
sq 21 (.mv (.t 144))]))
 (.seq (.reg [sq 145 (.mv (.t 1)),
sq 20 (.mv (.t 145))])
 (.reg [sq 146 (.mv (.t 2)),
sq 21 (.mv (.t 146))])))))
 (.seq (.reg [sq 147 (.mv (.t 19)),
sq 148 (.bin .sub (.t 147) (kI 1)),
sq 22 (.mv (.t 148))])
 (.seq (.sem (.block 8 (.loop (.seq (.seq (.reg [sq 149 (.mv (.t 20)),
sq 150 (.mv (.t 21)),
sq 151 (.bin .lss (.t 149) (.t 150))])
 (.cond (.t 151)
 .skip
 (.exit 8)))
 (.block 9 (.seq (.reg [sq 152 (.mv (.t 20)),
sq 153 (.mv (.t 21)),
sq 154 (.bin .add (.t 152) (.t 153)),
sq 155 (.conv .u64 (.t 154)),
sq 156 (.bin .shr (.t 155) (.k (.c (.d (.v (.int .u64 1)))))),
sq 157 (.conv .i64 (.t 156)),
sq 23 (.mv (.t 157))])
 (.seq (.regd [sq 158 (.mv (.t 4)),
sq 159 (.mv (.t 0)),
sq 160 (.mv (.t 22)),
sq 161 (.mv (.t 23)),
sd 162 (.bin .sub (.t 160) (.t 161)) [2, 3],
sd 163 (.indexA 5 (.t 159) (.t 162)) [1, 2, 3, 4],
sd 164 (.load (some 5) (.t 163)) [1, 2, 3, 4, 5],
sq 165 (.mv (.t 0)),
sq 166 (.mv (.t 23)),
sd 167 (.indexA 5 (.t 165) (.t 166)) [7, 8],
sd 168 (.load (some 5) (.t 167)) [7, 8, 9],
⟨(some 169), none, .callv (.t 158) [(.t 164), (.t 168)], [0, 1, 2, 3, 4, 5, 6, 7, 8, 9, 10], (.lone [])⟩,
sd 170 (.bin .lss (.t 169) (kI 0)) [0, 1, 2, 3, 4, 5, 6, 7, 8, 9, 10, 11],
sd 171 (.not (.t 170)) [0, 1, 2, 3, 4, 5, 6, 7, 8, 9, 10, 11, 12]])
 (.cond (.t 171)
 (.reg [sq 172 (.mv (.t 23)),
sq 173 (.bin .add (.t 172) (kI 1)),
sq 20 (.mv (.t 173))])
 (.reg [sq 174 (.mv (.t 23)),
sq 21 (.mv (.t 174))])))))))))
 (.seq (.reg [sq 175 (.mv (.t 19)),
sq 176 (.mv (.t 20)),
sq 177 (.bin .sub (.t 175) (.t 176)),
sq 24 (.mv (.t 177))])
 (.seq (.sem (.seq (.sem (.reg [sq 178 (.mv (.t 20)),
sq 179 (.mv (.t 2)),
sq 180 (.bin .lss (.t 178) (.t 179)),
sq 181 (.mv (.t 180)),
⟨(some 182), (some (181, true)), .mv (.t 2), [], (.new [])⟩,
⟨(some 183), (some (181, true)), .mv (.t 24), [], (.new [])⟩,
⟨(some 184), (some (181, true)), .bin .lss (.t 182) (.t 183), [], (.new [])⟩,
⟨(some 185), none, .pick (.t 181) (.t 184) (kB false), [], (.lone [])⟩]))
 (.cond (.t 185)
 (.reg [sq 186 (.mv (.t 0)),
sq 187 (.mv (.t 20)),
sq 188 (.mv (.t 2)),
sq 189 (.mv (.t 24)),
sq 190 (.mv (.t 4)),
⟨(some 191), none, .call 75 [(.t 186), (.t 187), (.t 188), (.t 189), (.t 190)], [], (.lone [])⟩])
 .skip)))
 (.seq (.sem (.seq (.sem (.reg [sq 192 (.mv (.t 1)),
sq 193 (.mv (.t 20)),
sq 194 (.bin .lss (.t 192) (.t 193)),
sq 195 (.mv (.t 194)),
⟨(some 196), (some (195, true)), .mv (.t 20), [], (.new [])⟩,
⟨(some 197), (some (195, true)), .mv (.t 18), [], (.new [])⟩,
⟨(some 198), (some (195, true)), .bin .lss (.t 196) (.t 197), [], (.new [])⟩,
⟨(some 199), none, .pick (.t 195) (.t 198) (kB false), [], (.lone [])⟩]))
 (.cond (.t 199)
 (.reg [sq 200 (.mv (.t 0)),
sq 201 (.mv (.t 1)),
sq 202 (.mv (.t 20)),
sq 203 (.mv (.t 18)),
sq 204 (.mv (.t 4)),
⟨(some 205), none, .call 56 [(.t 200), (.t 201), (.t 202), (.t 203), (.t 204)], [], (.lone [])⟩])
 .skip)))
 (.seq (.sem (.reg [sq 206 (.mv (.t 18)),
sq 207 (.mv (.t 24)),
sq 208 (.bin .lss (.t 206) (.t 207)),
sq 209 (.mv (.t 208)),
⟨(some 210), (some (209, true)), .mv (.t 24), [], (.new [])⟩,
⟨(some 211), (some (209, true)), .mv (.t 3), [], (.new [])⟩,
⟨(some 212), (some (209, true)), .bin .lss (.t 210) (.t 211), [], (.new [])⟩,
⟨(some 213), none, .pick (.t 209) (.t 212) (kB false), [], (.lone [])⟩]))
 (.cond (.t 213)
 (.reg [sq 214 (.mv (.t 0)),
sq 215 (.mv (.t 18)),
sq 216 (.mv (.t 24)),
sq 217 (.mv (.t 3)),
sq 218 (.mv (.t 4)),
⟨(some 219), none, .call 56 [(.t 214), (.t 215), (.t 216), (.t 217), (.t 218)], [], (.lone [])⟩])
 .skip)))))))))))))⟩
theorem a56_ok : afn Try.prog 56 = some a56.er := by kernel_rfl
theorem F56_ok {rc26 : (List Endpoint) → Int → Int → Int → Option ((List Endpoint))} (ih26 : ∀ {x0 : (List Endpoint)} {x1 : Int} {x2 : Int} {x3 : Int} {r : (List Endpoint)} {e0 : Nat} (h : rc26 x0 x1 x2 x3 = some r), CallD Try.prog 56 [.c (.own 0 e0 0 (x0.length) none), .c (.d (.v (.int .i64 x1))), .c (.d (.v (.int .i64 x2))), .c (.d (.v (.int .i64 x3))), .c (.fn 28 [])] [some (.arr e0 5 (x0.map eEndpoint))] (tupV []) [some (.arr e0 5 (r.map eEndpoint))]) (il26_len0 : ∀ {x0 : (List Endpoint)} {x1 : Int} {x2 : Int} {x3 : Int} {r : (List Endpoint)} (h : rc26 x0 x1 x2 x3 = some r), r.length = x0.length)  {x0 : (List Endpoint)} {x1 : Int} {x2 : Int} {x3 : Int} {r : (List Endpoint)} {e0 : Nat} (h : F56 rc26 x0 x1 x2 x3 = some r) : CallD Try.prog 56 [.c (.own 0 e0 0 (x0.length) none), .c (.d (.v (.int .i64 x1))), .c (.d (.v (.int .i64 x2))), .c (.d (.v (.int .i64 x3))), .c (.fn 28 [])] [some (.arr e0 5 (x0.map eEndpoint))] (tupV []) [some (.arr e0 5 (r.map eEndpoint))] := by
 replace h := (guard_some h).1
 refine callS a56_ok (by simp [a56]) ?_
 rw [F56i] at h
 simp only [a56, VW.down, Nat.reduceEqDiff, reduceCtorEq, Nat.reduceAdd, Nat.reduceLeDiff, Nat.reduceLT, Nat.reduceBEq, Nat.reduceSub, EE.down]
 refine condSh h (fun c1 h => ?_) (fun c1 h => ?_)
 ·refine ww ?_
  obtain ⟨o2, ho, h⟩ := bi h
  refine cutS (fun s => s = ⟨[(0, .one (.c (.own 0 e0 0 (x0.length) none))), (1, .one (.c (.d (.v (.int .i64 x1))))), (10, .one (.c (.d (.v (.int .i64 o2)))))], [some (.arr e0 5 (x0.map eEndpoint))]⟩) ?_ ?_
  ·have h := ho
   clear ho
   refine ww ?_
   refine bL (fun j s => ∃ (o2_0 : Int) (o2_1 : Int), s = ⟨[(0, .one (.c (.own 0 e0 0 (x0.length) none))), (1, .one (.c (.d (.v (.int .i64 x1))))), (4, .one (.c (.fn 28 []))), (10, .one (.c (.d (.v (.int .i64 o2_0))))), (11, .one (.c (.d (.v (.int .i64 o2_1)))))], [some (.arr e0 5 (x0.map eEndpoint))]⟩ ∧ F56_l2 x0 x1 j o2_0 o2_1 = some o2) 1099511627776 [some 0] ⟨x2, x3, rfl, h⟩ ?_
   rintro j _ ⟨o2_0, o2_1, rfl, h⟩
   cases j with
   | zero => cases (show (none : Option _) = some _ from h)
   | succ j =>
    rw [F56_l2] at h
    refine ww ?_
    refine condSh h (fun c3 h => ?_) (fun c3 h => ?_)
    ·refine ww ?_
     refine ⟨by decide, ?_⟩
     refine ww ?_
     obtain ⟨y4, hy4, h⟩ := bi h
     refine t_idxO (enc := eEndpoint) (xs := x0) rfl rfl rfl (by first | rfl | simp only [List.length_set] | exact (clrL_len (slI_len (by assumption))).symm) hy4 ?_
     refine ww ?_
     refine LdRow.rd (rdI_some hy4).2.1 ?_
     refine ww ?_
     obtain ⟨y5, hy5, h⟩ := bi h
     refine t_idxO (enc := eEndpoint) (xs := x0) rfl rfl rfl (by first | rfl | simp only [List.length_set] | exact (clrL_len (slI_len (by assumption))).symm) hy5 ?_
     refine ww ?_
     refine LdRow.rd (rdI_some hy5).2.1 ?_
     refine ww ?_
     obtain ⟨t6, ht6, h⟩ := bi h
     refine cN [] (F28_ok ht6) trivial ?_
     refine ww ?_
     refine condSh h (fun c7 h => ?_) (fun c7 h => ?_)
     ·refine ww ?_
      exact eL' j [some 0] ⟨(IntKind.i64.wrap (((IntKind.i64.wrap ((shrV .u64 ((IntKind.u64.wrap ((IntKind.i64.wrap (o2_0 + o2_1))))) 1)))) + 1)), o2_1, rfl, h⟩ (Nat.lt_succ_self _)
     ·refine ww ?_
      exact eL' j [some 0] ⟨o2_0, (IntKind.i64.wrap ((shrV .u64 ((IntKind.u64.wrap ((IntKind.i64.wrap (o2_0 + o2_1))))) 1))), rfl, h⟩ (Nat.lt_succ_self _)
    ·refine ww ?_
     obtain rfl := Option.some.inj h
     exact eM [some 0] rfl
  ·rintro _ rfl
   clear ho
   refine ww ?_
   obtain ⟨o8, ho, h⟩ := bi h
   refine cutS (fun s => s = ⟨[], [some (.arr e0 5 (o8.map eEndpoint))]⟩) ?_ ?_
   ·have h := ho
    clear ho
    refine ww ?_
    refine bL (fun j s => ∃ (o8_0 : List Endpoint) (o8_1 : Int), s = ⟨[(0, .one (.c (.own 0 e0 0 (o8_0.length) none))), (10, .one (.c (.d (.v (.int .i64 o2))))), (13, .one (.c (.d (.v (.int .i64 o8_1)))))], [some (.arr e0 5 (o8_0.map eEndpoint))]⟩ ∧ F56_l8 o2 j o8_0 o8_1 = some o8) 1099511627776 [some 0] ⟨x0, x1, rfl, h⟩ ?_
    rintro j _ ⟨o8_0, o8_1, rfl, h⟩
    cases j with
    | zero => cases (show (none : Option _) = some _ from h)
    | succ j =>
     rw [F56_l8] at h
     refine ww ?_
     refine condSh h (fun c9 h => ?_) (fun c9 h => ?_)
     ·refine ww ?_
      obtain ⟨y10, hy10, h⟩ := bi h
      refine t_idxO (enc := eEndpoint) (xs := o8_0) rfl rfl rfl (by first | rfl | simp only [List.length_set] | exact (clrL_len (slI_len (by assumption))).symm) hy10 ?_
      refine ww ?_
      refine LdRow.rd (rdI_some hy10).2.1 ?_
      refine ww ?_
      obtain ⟨y11, hy11, h⟩ := bi h
      refine t_idxO (enc := eEndpoint) (xs := o8_0) rfl rfl rfl (by first | rfl | simp only [List.length_set] | exact (clrL_len (slI_len (by assumption))).symm) hy11 ?_
      refine ww ?_
      refine LdRow.rd (rdI_some hy11).2.1 ?_
      refine ww ?_
      obtain ⟨y12, hy12, h⟩ := bi h
      refine t_idxO (enc := eEndpoint) (xs := o8_0) rfl rfl rfl (by first | rfl | simp only [List.length_set] | exact (clrL_len (slI_len (by assumption))).symm) hy12 ?_
      refine ww ?_
      refine StRow.rd (y' := y10) (rdI_some hy12).2.1 (by simp [EE.down]) (by first | rfl | (simp only [bor_full']; rfl)) ?_
      refine ww ?_
      obtain ⟨y13, hy13, h⟩ := bi h
      refine t_idxO (enc := eEndpoint) (xs := ((o8_0.set o8_1.toNat y10))) rfl rfl rfl (by first | rfl | simp only [List.length_set] | exact (clrL_len (slI_len (by assumption))).symm) hy13 ?_
      refine ww ?_
      refine StRow.rd (y' := y11) (rdI_some hy13).2.1 (by simp [EE.down]) (by first | rfl | (simp only [bor_full']; rfl)) ?_
      refine ww ?_
      exact eL' j [some 0] ⟨(((o8_0.set o8_1.toNat y10)).set ((IntKind.i64.wrap (o8_1 + 1))).toNat y11), (IntKind.i64.wrap (o8_1 + 1)), rfl, h⟩ (Nat.lt_succ_self _)
     ·refine ww ?_
      obtain rfl := Option.some.inj h
      exact eM [some 0] rfl
   ·rintro _ rfl
    clear ho
    refine ww ?_
    obtain rfl := Option.some.inj h
    exact eF [some 0]
 ·refine ww ?_
  refine condSh h (fun c14 h => ?_) (fun c14 h => ?_)
  ·refine ww ?_
   obtain ⟨o15, ho, h⟩ := bi h
   refine cutS (fun s => s = ⟨[(0, .one (.c (.own 0 e0 0 (x0.length) none))), (2, .one (.c (.d (.v (.int .i64 x2))))), (14, .one (.c (.d (.v (.int .i64 o15)))))], [some (.arr e0 5 (x0.map eEndpoint))]⟩) ?_ ?_
   ·have h := ho
    clear ho
    refine ww ?_
    refine bL (fun j s => ∃ (o15_0 : Int) (o15_1 : Int), s = ⟨[(0, .one (.c (.own 0 e0 0 (x0.length) none))), (2, .one (.c (.d (.v (.int .i64 x2))))), (4, .one (.c (.fn 28 []))), (14, .one (.c (.d (.v (.int .i64 o15_0))))), (15, .one (.c (.d (.v (.int .i64 o15_1)))))], [some (.arr e0 5 (x0.map eEndpoint))]⟩ ∧ F56_l15 x0 x2 j o15_0 o15_1 = some o15) 1099511627776 [some 0] ⟨x1, x2, rfl, h⟩ ?_
    rintro j _ ⟨o15_0, o15_1, rfl, h⟩
    cases j with
    | zero => cases (show (none : Option _) = some _ from h)
    | succ j =>
     rw [F56_l15] at h
     refine ww ?_
     refine condSh h (fun c16 h => ?_) (fun c16 h => ?_)
     ·refine ww ?_
      refine ⟨by decide, ?_⟩
      refine ww ?_
      obtain ⟨y17, hy17, h⟩ := bi h
      refine t_idxO (enc := eEndpoint) (xs := x0) rfl rfl rfl (by first | rfl | simp only [List.length_set] | exact (clrL_len (slI_len (by assumption))).symm) hy17 ?_
      refine ww ?_
      refine LdRow.rd (rdI_some hy17).2.1 ?_
      refine ww ?_
      obtain ⟨y18, hy18, h⟩ := bi h
      refine t_idxO (enc := eEndpoint) (xs := x0) rfl rfl rfl (by first | rfl | simp only [List.length_set] | exact (clrL_len (slI_len (by assumption))).symm) hy18 ?_
      refine ww ?_
      refine LdRow.rd (rdI_some hy18).2.1 ?_
      refine ww ?_
      obtain ⟨t19, ht19, h⟩ := bi h
      refine cN [] (F28_ok ht19) trivial ?_
      refine ww ?_
      refine condSh h (fun c20 h => ?_) (fun c20 h => ?_)
      ·refine ww ?_
       exact eL' j [some 0] ⟨(IntKind.i64.wrap (((IntKind.i64.wrap ((shrV .u64 ((IntKind.u64.wrap ((IntKind.i64.wrap (o15_0 + o15_1))))) 1)))) + 1)), o15_1, rfl, h⟩ (Nat.lt_succ_self _)
      ·refine ww ?_
       exact eL' j [some 0] ⟨o15_0, (IntKind.i64.wrap ((shrV .u64 ((IntKind.u64.wrap ((IntKind.i64.wrap (o15_0 + o15_1))))) 1))), rfl, h⟩ (Nat.lt_succ_self _)
     ·refine ww ?_
      obtain rfl := Option.some.inj h
      exact eM [some 0] rfl
   ·rintro _ rfl
    clear ho
    refine ww ?_
    obtain ⟨o21, ho, h⟩ := bi h
    refine cutS (fun s => s = ⟨[], [some (.arr e0 5 (o21.map eEndpoint))]⟩) ?_ ?_
    ·have h := ho
     clear ho
     refine ww ?_
     refine bL (fun j s => ∃ (o21_0 : List Endpoint) (o21_1 : Int), s = ⟨[(0, .one (.c (.own 0 e0 0 (o21_0.length) none))), (14, .one (.c (.d (.v (.int .i64 o15))))), (17, .one (.c (.d (.v (.int .i64 o21_1)))))], [some (.arr e0 5 (o21_0.map eEndpoint))]⟩ ∧ F56_l21 o15 j o21_0 o21_1 = some o21) 1099511627776 [some 0] ⟨x0, x2, rfl, h⟩ ?_
     rintro j _ ⟨o21_0, o21_1, rfl, h⟩
     cases j with
     | zero => cases (show (none : Option _) = some _ from h)
     | succ j =>
      rw [F56_l21] at h
      refine ww ?_
      refine condSh h (fun c22 h => ?_) (fun c22 h => ?_)
      ·refine ww ?_
       obtain ⟨y23, hy23, h⟩ := bi h
       refine t_idxO (enc := eEndpoint) (xs := o21_0) rfl rfl rfl (by first | rfl | simp only [List.length_set] | exact (clrL_len (slI_len (by assumption))).symm) hy23 ?_
       refine ww ?_
       refine LdRow.rd (rdI_some hy23).2.1 ?_
       refine ww ?_
       obtain ⟨y24, hy24, h⟩ := bi h
       refine t_idxO (enc := eEndpoint) (xs := o21_0) rfl rfl rfl (by first | rfl | simp only [List.length_set] | exact (clrL_len (slI_len (by assumption))).symm) hy24 ?_
       refine ww ?_
       refine LdRow.rd (rdI_some hy24).2.1 ?_
       refine ww ?_
       obtain ⟨y25, hy25, h⟩ := bi h
       refine t_idxO (enc := eEndpoint) (xs := o21_0) rfl rfl rfl (by first | rfl | simp only [List.length_set] | exact (clrL_len (slI_len (by assumption))).symm) hy25 ?_
       refine ww ?_
       refine StRow.rd (y' := y23) (rdI_some hy25).2.1 (by simp [EE.down]) (by first | rfl | (simp only [bor_full']; rfl)) ?_
       refine ww ?_
       obtain ⟨y26, hy26, h⟩ := bi h
       refine t_idxO (enc := eEndpoint) (xs := ((o21_0.set o21_1.toNat y23))) rfl rfl rfl (by first | rfl | simp only [List.length_set] | exact (clrL_len (slI_len (by assumption))).symm) hy26 ?_
       refine ww ?_
       refine StRow.rd (y' := y24) (rdI_some hy26).2.1 (by simp [EE.down]) (by first | rfl | (simp only [bor_full']; rfl)) ?_
       refine ww ?_
       exact eL' j [some 0] ⟨(((o21_0.set o21_1.toNat y23)).set ((IntKind.i64.wrap (o21_1 - 1))).toNat y24), (IntKind.i64.wrap (o21_1 - 1)), rfl, h⟩ (Nat.lt_succ_self _)
      ·refine ww ?_
       obtain rfl := Option.some.inj h
       exact eM [some 0] rfl
    ·rintro _ rfl
     clear ho
     refine ww ?_
     obtain rfl := Option.some.inj h
     exact eF [some 0]
  ·refine ww ?_
   refine ⟨by decide, ?_⟩
   refine ww ?_
   obtain ⟨o27, ho, h⟩ := bi h
   refine cutS (fun s => s = ⟨[(0, .one (.c (.own 0 e0 0 (x0.length) none))), (1, .one (.c (.d (.v (.int .i64 x1))))), (2, .one (.c (.d (.v (.int .i64 x2))))), (3, .one (.c (.d (.v (.int .i64 x3))))), (4, .one (.c (.fn 28 []))), (18, .one (.c (.d (.v (.int .i64 ((IntKind.i64.wrap ((shrV .u64 ((IntKind.u64.wrap ((IntKind.i64.wrap (x1 + x3))))) 1))))))))), (19, .one (.c (.d (.v (.int .i64 ((IntKind.i64.wrap (((IntKind.i64.wrap ((shrV .u64 ((IntKind.u64.wrap ((IntKind.i64.wrap (x1 + x3))))) 1)))) + x2)))))))), (20, .one (.c (.d (.v (.int .i64 o27.1))))), (21, .one (.c (.d (.v (.int .i64 o27.2)))))], [some (.arr e0 5 (x0.map eEndpoint))]⟩) ?_ ?_
   ·have h := ho
    clear ho
    refine ww ?_
    refine condSh h (fun c28 h => ?_) (fun c28 h => ?_)
    ·refine ww ?_
     obtain rfl := Option.some.inj h
     exact eM [some 0] rfl
    ·refine ww ?_
     obtain rfl := Option.some.inj h
     exact eM [some 0] rfl
   ·rintro _ rfl
    clear ho
    refine ww ?_
    obtain ⟨o29, ho, h⟩ := bi h
    refine cutS (fun s => s = ⟨[(0, .one (.c (.own 0 e0 0 (x0.length) none))), (1, .one (.c (.d (.v (.int .i64 x1))))), (2, .one (.c (.d (.v (.int .i64 x2))))), (3, .one (.c (.d (.v (.int .i64 x3))))), (4, .one (.c (.fn 28 []))), (18, .one (.c (.d (.v (.int .i64 ((IntKind.i64.wrap ((shrV .u64 ((IntKind.u64.wrap ((IntKind.i64.wrap (x1 + x3))))) 1))))))))), (19, .one (.c (.d (.v (.int .i64 ((IntKind.i64.wrap (((IntKind.i64.wrap ((shrV .u64 ((IntKind.u64.wrap ((IntKind.i64.wrap (x1 + x3))))) 1)))) + x2)))))))), (20, .one (.c (.d (.v (.int .i64 o29)))))], [some (.arr e0 5 (x0.map eEndpoint))]⟩) ?_ ?_
    ·have h := ho
     clear ho
     refine ww ?_
     refine bL (fun j s => ∃ (o29_0 : Int) (o29_1 : Int), s = ⟨[(0, .one (.c (.own 0 e0 0 (x0.length) none))), (1, .one (.c (.d (.v (.int .i64 x1))))), (2, .one (.c (.d (.v (.int .i64 x2))))), (3, .one (.c (.d (.v (.int .i64 x3))))), (4, .one (.c (.fn 28 []))), (18, .one (.c (.d (.v (.int .i64 ((IntKind.i64.wrap ((shrV .u64 ((IntKind.u64.wrap ((IntKind.i64.wrap (x1 + x3))))) 1))))))))), (19, .one (.c (.d (.v (.int .i64 ((IntKind.i64.wrap (((IntKind.i64.wrap ((shrV .u64 ((IntKind.u64.wrap ((IntKind.i64.wrap (x1 + x3))))) 1)))) + x2)))))))), (20, .one (.c (.d (.v (.int .i64 o29_0))))), (21, .one (.c (.d (.v (.int .i64 o29_1))))), (22, .one (.c (.d (.v (.int .i64 ((IntKind.i64.wrap (((IntKind.i64.wrap (((IntKind.i64.wrap ((shrV .u64 ((IntKind.u64.wrap ((IntKind.i64.wrap (x1 + x3))))) 1)))) + x2))) - 1))))))))], [some (.arr e0 5 (x0.map eEndpoint))]⟩ ∧ F56_l29 x0 x1 x2 x3 j o29_0 o29_1 = some o29) 1099511627776 [some 0] ⟨o27.1, o27.2, rfl, h⟩ ?_
     rintro j _ ⟨o29_0, o29_1, rfl, h⟩
     cases j with
     | zero => cases (show (none : Option _) = some _ from h)
     | succ j =>
      rw [F56_l29] at h
      refine ww ?_
      refine condSh h (fun c30 h => ?_) (fun c30 h => ?_)
      ·refine ww ?_
       refine ⟨by decide, ?_⟩
       refine ww ?_
       obtain ⟨y31, hy31, h⟩ := bi h
       refine t_idxO (enc := eEndpoint) (xs := x0) rfl rfl rfl (by first | rfl | simp only [List.length_set] | exact (clrL_len (slI_len (by assumption))).symm) hy31 ?_
       refine ww ?_
       refine LdRow.rd (rdI_some hy31).2.1 ?_
       refine ww ?_
       obtain ⟨y32, hy32, h⟩ := bi h
       refine t_idxO (enc := eEndpoint) (xs := x0) rfl rfl rfl (by first | rfl | simp only [List.length_set] | exact (clrL_len (slI_len (by assumption))).symm) hy32 ?_
       refine ww ?_
       refine LdRow.rd (rdI_some hy32).2.1 ?_
       refine ww ?_
       obtain ⟨t33, ht33, h⟩ := bi h
       refine cN [] (F28_ok ht33) trivial ?_
       refine ww ?_
       refine condSh h (fun c34 h => ?_) (fun c34 h => ?_)
       ·refine ww ?_
        exact eL' j [some 0] ⟨(IntKind.i64.wrap (((IntKind.i64.wrap ((shrV .u64 ((IntKind.u64.wrap ((IntKind.i64.wrap (o29_0 + o29_1))))) 1)))) + 1)), o29_1, rfl, h⟩ (Nat.lt_succ_self _)
       ·refine ww ?_
        exact eL' j [some 0] ⟨o29_0, (IntKind.i64.wrap ((shrV .u64 ((IntKind.u64.wrap ((IntKind.i64.wrap (o29_0 + o29_1))))) 1))), rfl, h⟩ (Nat.lt_succ_self _)
      ·refine ww ?_
       obtain rfl := Option.some.inj h
       exact eM [some 0] rfl
    ·rintro _ rfl
     clear ho
     refine ww ?_
     obtain ⟨o35, ho, h⟩ := bi h
     refine cutS (fun s => s = ⟨[(0, .one (.c (.own 0 e0 0 (o35.length) none))), (1, .one (.c (.d (.v (.int .i64 x1))))), (3, .one (.c (.d (.v (.int .i64 x3))))), (4, .one (.c (.fn 28 []))), (18, .one (.c (.d (.v (.int .i64 ((IntKind.i64.wrap ((shrV .u64 ((IntKind.u64.wrap ((IntKind.i64.wrap (x1 + x3))))) 1))))))))), (20, .one (.c (.d (.v (.int .i64 o29))))), (24, .one (.c (.d (.v (.int .i64 ((IntKind.i64.wrap (((IntKind.i64.wrap (((IntKind.i64.wrap ((shrV .u64 ((IntKind.u64.wrap ((IntKind.i64.wrap (x1 + x3))))) 1)))) + x2))) - o29))))))))], [some (.arr e0 5 (o35.map eEndpoint))]⟩) ?_ ?_
     ·have h := ho
      clear ho
      refine ww ?_
      obtain ⟨o36, ho, h⟩ := bi h
      refine cutS (fun s => s = ⟨[(0, .one (.c (.own 0 e0 0 (x0.length) none))), (1, .one (.c (.d (.v (.int .i64 x1))))), (2, .one (.c (.d (.v (.int .i64 x2))))), (3, .one (.c (.d (.v (.int .i64 x3))))), (4, .one (.c (.fn 28 []))), (18, .one (.c (.d (.v (.int .i64 ((IntKind.i64.wrap ((shrV .u64 ((IntKind.u64.wrap ((IntKind.i64.wrap (x1 + x3))))) 1))))))))), (20, .one (.c (.d (.v (.int .i64 o29))))), (24, .one (.c (.d (.v (.int .i64 ((IntKind.i64.wrap (((IntKind.i64.wrap (((IntKind.i64.wrap ((shrV .u64 ((IntKind.u64.wrap ((IntKind.i64.wrap (x1 + x3))))) 1)))) + x2))) - o29)))))))), (185, .one (.c (.d (.v (.bool o36)))))], [some (.arr e0 5 (x0.map eEndpoint))]⟩) ?_ ?_
      ·have h := ho
       clear ho
       refine ww ?_
       refine guardSh h (fun g37 h => ?_) (fun g37 h => ?_)
       ·refine ww ?_
        obtain rfl := Option.some.inj h
        exact eM [some 0] rfl
       ·refine ww ?_
        obtain rfl := Option.some.inj h
        exact eM [some 0] rfl
      ·rintro _ rfl
       clear ho
       refine ww ?_
       refine condBh h (fun c38 h => ?_) (fun c38 h => ?_)
       ·refine ww ?_
        obtain ⟨t39, ht39, h⟩ := bi h
        refine cN [0] (F75_ok (e0 := e0) ht39) ⟨⟨rfl, trivial⟩, trivial⟩ ?_
        refine ww ?_
        obtain rfl := Option.some.inj h
        exact eM [some 0] rfl (hB := by simp only [ZZ.down, Nat.reduceEqDiff, reduceCtorEq, Nat.reduceAdd, Nat.reduceLeDiff, Nat.reduceLT, Nat.reduceBNe, EE.down, F75_len0 ht39]) (hs := by simp only [ZZ.down, Nat.reduceEqDiff, reduceCtorEq, Nat.reduceAdd, Nat.reduceLeDiff, Nat.reduceLT, Nat.reduceBNe, EE.down, F75_len0 ht39])
       ·refine ww ?_
        obtain rfl := Option.some.inj h
        exact eM [some 0] rfl
     ·rintro _ rfl
      clear ho
      refine ww ?_
      obtain ⟨o40, ho, h⟩ := bi h
      refine cutS (fun s => s = ⟨[(0, .one (.c (.own 0 e0 0 (o40.length) none))), (3, .one (.c (.d (.v (.int .i64 x3))))), (4, .one (.c (.fn 28 []))), (18, .one (.c (.d (.v (.int .i64 ((IntKind.i64.wrap ((shrV .u64 ((IntKind.u64.wrap ((IntKind.i64.wrap (x1 + x3))))) 1))))))))), (24, .one (.c (.d (.v (.int .i64 ((IntKind.i64.wrap (((IntKind.i64.wrap (((IntKind.i64.wrap ((shrV .u64 ((IntKind.u64.wrap ((IntKind.i64.wrap (x1 + x3))))) 1)))) + x2))) - o29))))))))], [some (.arr e0 5 (o40.map eEndpoint))]⟩) ?_ ?_
      ·have h := ho
       clear ho
       refine ww ?_
       obtain ⟨o41, ho, h⟩ := bi h
       refine cutS (fun s => s = ⟨[(0, .one (.c (.own 0 e0 0 (o35.length) none))), (1, .one (.c (.d (.v (.int .i64 x1))))), (3, .one (.c (.d (.v (.int .i64 x3))))), (4, .one (.c (.fn 28 []))), (18, .one (.c (.d (.v (.int .i64 ((IntKind.i64.wrap ((shrV .u64 ((IntKind.u64.wrap ((IntKind.i64.wrap (x1 + x3))))) 1))))))))), (20, .one (.c (.d (.v (.int .i64 o29))))), (24, .one (.c (.d (.v (.int .i64 ((IntKind.i64.wrap (((IntKind.i64.wrap (((IntKind.i64.wrap ((shrV .u64 ((IntKind.u64.wrap ((IntKind.i64.wrap (x1 + x3))))) 1)))) + x2))) - o29)))))))), (199, .one (.c (.d (.v (.bool o41)))))], [some (.arr e0 5 (o35.map eEndpoint))]⟩) ?_ ?_
       ·have h := ho
        clear ho
        refine ww ?_
        refine guardSh h (fun g42 h => ?_) (fun g42 h => ?_)
        ·refine ww ?_
         obtain rfl := Option.some.inj h
         exact eM [some 0] rfl
        ·refine ww ?_
         obtain rfl := Option.some.inj h
         exact eM [some 0] rfl
       ·rintro _ rfl
        clear ho
        refine ww ?_
        refine condBh h (fun c43 h => ?_) (fun c43 h => ?_)
        ·refine ww ?_
         obtain ⟨t44, ht44, h⟩ := bi h
         refine cN [0] (ih26 (e0 := e0) ht44) ⟨⟨rfl, trivial⟩, trivial⟩ ?_
         refine ww ?_
         obtain rfl := Option.some.inj h
         exact eM [some 0] rfl (hB := by simp only [ZZ.down, Nat.reduceEqDiff, reduceCtorEq, Nat.reduceAdd, Nat.reduceLeDiff, Nat.reduceLT, Nat.reduceBNe, EE.down, il26_len0 ht44]) (hs := by simp only [ZZ.down, Nat.reduceEqDiff, reduceCtorEq, Nat.reduceAdd, Nat.reduceLeDiff, Nat.reduceLT, Nat.reduceBNe, EE.down, il26_len0 ht44])
        ·refine ww ?_
         obtain rfl := Option.some.inj h
         exact eM [some 0] rfl
      ·rintro _ rfl
       clear ho
       refine ww ?_
       obtain ⟨o45, ho, h⟩ := bi h
       refine cutS (fun s => s = ⟨[(0, .one (.c (.own 0 e0 0 (o40.length) none))), (3, .one (.c (.d (.v (.int .i64 x3))))), (4, .one (.c (.fn 28 []))), (18, .one (.c (.d (.v (.int .i64 ((IntKind.i64.wrap ((shrV .u64 ((IntKind.u64.wrap ((IntKind.i64.wrap (x1 + x3))))) 1))))))))), (24, .one (.c (.d (.v (.int .i64 ((IntKind.i64.wrap (((IntKind.i64.wrap (((IntKind.i64.wrap ((shrV .u64 ((IntKind.u64.wrap ((IntKind.i64.wrap (x1 + x3))))) 1)))) + x2))) - o29)))))))), (213, .one (.c (.d (.v (.bool o45)))))], [some (.arr e0 5 (o40.map eEndpoint))]⟩) ?_ ?_
       ·have h := ho
        clear ho
        refine ww ?_
        refine guardSh h (fun g46 h => ?_) (fun g46 h => ?_)
        ·refine ww ?_
         obtain rfl := Option.some.inj h
         exact eM [some 0] rfl
        ·refine ww ?_
         obtain rfl := Option.some.inj h
         exact eM [some 0] rfl
       ·rintro _ rfl
        clear ho
        refine ww ?_
        refine condBh h (fun c47 h => ?_) (fun c47 h => ?_)
        ·refine ww ?_
         obtain ⟨t48, ht48, h⟩ := bi h
         refine cN [0] (ih26 (e0 := e0) ht48) ⟨⟨rfl, trivial⟩, trivial⟩ ?_
         refine ww ?_
         obtain rfl := Option.some.inj h
         exact eF [some 0] (hB := by simp only [ZZ.down, Nat.reduceEqDiff, reduceCtorEq, Nat.reduceAdd, Nat.reduceLeDiff, Nat.reduceLT, Nat.reduceBNe, EE.down, il26_len0 ht48]) (hs := by simp only [ZZ.down, Nat.reduceEqDiff, reduceCtorEq, Nat.reduceAdd, Nat.reduceLeDiff, Nat.reduceLT, Nat.reduceBNe, EE.down, il26_len0 ht48])
        ·refine ww ?_
         obtain rfl := Option.some.inj h
         exact eF [some 0]
def F56k : Nat → (List Endpoint) → Int → Int → Int → Option ((List Endpoint))
  | 0 => fun _ _ _ _ => none
  | k + 1 => F56 (F56k k)
theorem F56k_len0 {k : Nat} {x0 : (List Endpoint)} {x1 : Int} {x2 : Int} {x3 : Int} {r : (List Endpoint)} (h : F56k k x0 x1 x2 x3 = some r) : r.length = x0.length := by
  cases k with
  | zero => cases (show (none : Option ((List Endpoint))) = some _ from h)
  | succ k => exact F56_len0 h
theorem F56k_ok (k : Nat) {x0 : (List Endpoint)} {x1 : Int} {x2 : Int} {x3 : Int} {r : (List Endpoint)} {e0 : Nat} (h : F56k k x0 x1 x2 x3 = some r) : CallD Try.prog 56 [.c (.own 0 e0 0 (x0.length) none), .c (.d (.v (.int .i64 x1))), .c (.d (.v (.int .i64 x2))), .c (.d (.v (.int .i64 x3))), .c (.fn 28 [])] [some (.arr e0 5 (x0.map eEndpoint))] (tupV []) [some (.arr e0 5 (r.map eEndpoint))] := by
  induction k generalizing x0 x1 x2 x3 r e0 with
  | zero => cases (show (none : Option ((List Endpoint))) = some _ from h)
  | succ k ih => exact F56_ok (fun h => ih h) (fun h => F56k_len0 h) h

/- slices.stableCmpFunc[orchestrator/api.Endpoint] -/
def F44_l1 (x1 : Int) : Nat → (List Endpoint) → Int → Int → Option ((List Endpoint) × Int)
  | 0, _, _, _ => none
  | k + 1, o1_0, o1_1, o1_2 => (if o1_2 ≤ x1 then (F55 o1_0 o1_1 o1_2).bind fun t3 => F44_l1 x1 k t3 o1_2 ((IntKind.i64.wrap (o1_2 + 20))) else some ((o1_0, o1_1)))
def F44_l7 (o5_1 : Int) (x1 : Int) : Nat → (List Endpoint) → Int → Int → Option ((List Endpoint) × Int)
  | 0, _, _, _ => none
  | k + 1, o7_0, o7_1, o7_2 => (if o7_2 ≤ x1 then (F56k 1099511627776 o7_0 o7_1 ((IntKind.i64.wrap (o7_1 + o5_1))) o7_2).bind fun t9 => F44_l7 o5_1 x1 k t9 o7_2 ((IntKind.i64.wrap (o7_2 + ((IntKind.i64.wrap (2 * o5_1)))))) else some ((o7_0, o7_1)))
def F44_l5 (x1 : Int) : Nat → (List Endpoint) → Int → Option ((List Endpoint))
  | 0, _, _ => none
  | k + 1, o5_0, o5_1 => (if o5_1 < x1 then ((F44_l7 o5_1 x1 1099511627776 o5_0 0 ((IntKind.i64.wrap (2 * o5_1)))).bind fun o7 => (((if (IntKind.i64.wrap (o7.2 + o5_1)) < x1 then (F56k 1099511627776 o7.1 o7.2 ((IntKind.i64.wrap (o7.2 + o5_1))) x1).bind fun t12 => some t12 else some o7.1)).bind fun o10 => F44_l5 x1 k o10 ((IntKind.i64.wrap (o5_1 * 2))))) else some o5_0)
def F44i (x0 : (List Endpoint)) (x1 : Int) : Option ((List Endpoint)) := ((F44_l1 x1 1099511627776 x0 0 20).bind fun o1 => (F55 o1.1 o1.2 x1).bind fun t4 => ((F44_l5 x1 1099511627776 t4 20).bind fun o5 => some o5))
def F44 (x0 : (List Endpoint)) (x1 : Int) : Option ((List Endpoint)) := (F44i x0 x1).bind fun r => if r.length = x0.length then some r else none
theorem F44_len0 {x0 : (List Endpoint)} {x1 : Int} {r : (List Endpoint)} (h : F44 x0 x1 = some r) : r.length = x0.length := (guard_some h).2
def a44 : AFn := ⟨63, [],
 (.seq (.reg [sq 6 (.mv (kI 20))])
 (.seq (.reg [sq 10 (.mv (.t 6)),
sq 7 (.mv (kI 0)),
sq 8 (.mv (.t 10))])
 (.seq (.sem (.block 0 (.loop (.seq (.seq (.reg [sq 11 (.mv (.t 8)),
sq 12 (.mv (.t 1)),
sq 13 (.bin .leq (.t 11) (.t 12))])
 (.cond (.t 13)
 .skip
 (.exit 0)))
 (.block 1 (.seq (.reg [sq 14 (.mv (.t 0)),
sq 15 (.mv (.t 7)),
sq 16 (.mv (.t 8)),
sq 17 (.mv (.t 2)),
⟨(some 18), none, .call 55 [(.t 14), (.t 15), (.t 16), (.t 17)], [], (.lone [])⟩])
 (.seq (.reg [sq 19 (.mv (.t 8)),
sq 7 (.mv (.t 19))])
 (.reg [sq 20 (.mv (.t 8)),
sq 21 (.mv (.t 6)),
sq 22 (.bin .add (.t 20) (.t 21)),
sq 8 (.mv (.t 22))]))))))))
 (.seq (.reg [sq 23 (.mv (.t 0)),
sq 24 (.mv (.t 7)),
sq 25 (.mv (.t 1)),
sq 26 (.mv (.t 2)),
⟨(some 27), none, .call 55 [(.t 23), (.t 24), (.t 25), (.t 26)], [], (.lone [])⟩])
 (.sem (.block 2 (.loop (.seq (.seq (.reg [sq 28 (.mv (.t 6)),
sq 29 (.mv (.t 1)),
sq 30 (.bin .lss (.t 28) (.t 29))])
 (.cond (.t 30)
 .skip
 (.exit 2)))
 (.block 3 (.seq (.reg [sq 31 (.mv (.t 6)),
sq 32 (.bin .mul (kI 2) (.t 31)),
sq 7 (.mv (kI 0)),
sq 8 (.mv (.t 32))])
 (.seq (.sem (.block 4 (.loop (.seq (.seq (.reg [sq 33 (.mv (.t 8)),
sq 34 (.mv (.t 1)),
sq 35 (.bin .leq (.t 33) (.t 34))])
 (.cond (.t 35)
 .skip
 (.exit 4)))
 (.block 5 (.seq (.reg [sq 36 (.mv (.t 0)),
sq 37 (.mv (.t 7)),
sq 38 (.mv (.t 7)),
sq 39 (.mv (.t 6)),
sq 40 (.bin .add (.t 38) (.t 39)),
sq 41 (.mv (.t 8)),
sq 42 (.mv (.t 2)),
⟨(some 43), none, .call 56 [(.t 36), (.t 37), (.t 40), (.t 41), (.t 42)], [], (.lone [])⟩])
 (.seq (.reg [sq 44 (.mv (.t 8)),
sq 7 (.mv (.t 44))])
 (.reg [sq 45 (.mv (.t 8)),
sq 46 (.mv (.t 6)),
sq 47 (.bin .mul (kI 2) (.t 46)),
sq 48 (.bin .add (.t 45) (.t 47)),
sq 8 (.mv (.t 48))]))))))))
 (.seq (.sem (.seq (.reg [sq 49 (.mv (.t 7)),
sq 50 (.mv (.t 6)),
sq 51 (.bin .add (.t 49) (.t 50)),
sq 9 (.mv (.t 51))])
 (.seq (.reg [sq 52 (.mv (.t 9)),
sq 53 (.mv (.t 1)),
sq 54 (.bin .lss (.t 52) (.t 53))])
 (.cond (.t 54)
 (.reg [sq 55 (.mv (.t 0)),
sq 56 (.mv (.t 7)),
sq 57 (.mv (.t 9)),
sq 58 (.mv (.t 1)),
sq 59 (.mv (.t 2)),
⟨(some 60), none, .call 56 [(.t 55), (.t 56), (.t 57), (.t 58), (.t 59)], [], (.lone [])⟩])
 .skip))))
 (.reg [sq 61 (.mv (.t 6)),
sq 62 (.bin .mul (.t 61) (kI 2)),
sq 6 (.mv (.t 62))])))))))))))))⟩
theorem a44_ok : afn Try.prog 44 = some a44.er := by kernel_rfl
theorem F44_ok {x0 : (List Endpoint)} {x1 : Int} {r : (List Endpoint)} {e0 : Nat} (h : F44 x0 x1 = some r) : CallD Try.prog 44 [.c (.own 0 e0 0 (x0.length) none), .c (.d (.v (.int .i64 x1))), .c (.fn 28 [])] [some (.arr e0 5 (x0.map eEndpoint))] (tupV []) [some (.arr e0 5 (r.map eEndpoint))] := by
 replace h := (guard_some h).1
 refine callS a44_ok (by simp [a44]) ?_
 rw [F44i] at h
 simp only [a44, VW.down, Nat.reduceEqDiff, reduceCtorEq, Nat.reduceAdd, Nat.reduceLeDiff, Nat.reduceLT, Nat.reduceBEq, Nat.reduceSub, EE.down]
 obtain ⟨o1, ho, h⟩ := bi h
 refine cutS (fun s => s = ⟨[(0, .one (.c (.own 0 e0 0 (o1.1.length) none))), (1, .one (.c (.d (.v (.int .i64 x1))))), (2, .one (.c (.fn 28 []))), (6, .one (.c (.d (.v (.int .i64 20))))), (7, .one (.c (.d (.v (.int .i64 o1.2)))))], [some (.arr e0 5 (o1.1.map eEndpoint))]⟩) ?_ ?_
 ·have h := ho
  clear ho
  refine ww ?_
  refine bL (fun j s => ∃ (o1_0 : List Endpoint) (o1_1 : Int) (o1_2 : Int), s = ⟨[(0, .one (.c (.own 0 e0 0 (o1_0.length) none))), (1, .one (.c (.d (.v (.int .i64 x1))))), (2, .one (.c (.fn 28 []))), (6, .one (.c (.d (.v (.int .i64 20))))), (7, .one (.c (.d (.v (.int .i64 o1_1))))), (8, .one (.c (.d (.v (.int .i64 o1_2)))))], [some (.arr e0 5 (o1_0.map eEndpoint))]⟩ ∧ F44_l1 x1 j o1_0 o1_1 o1_2 = some o1) 1099511627776 [some 0] ⟨x0, 0, 20, rfl, h⟩ ?_
  rintro j _ ⟨o1_0, o1_1, o1_2, rfl, h⟩
  cases j with
  | zero => cases (show (none : Option _) = some _ from h)
  | succ j =>
   rw [F44_l1] at h
   refine ww ?_
   refine condSh h (fun c2 h => ?_) (fun c2 h => ?_)
   ·refine ww ?_
    obtain ⟨t3, ht3, h⟩ := bi h
    refine cN [0] (F55_ok (e0 := e0) ht3) ⟨⟨rfl, trivial⟩, trivial⟩ ?_
    refine ww ?_
    exact eL' j [some 0] ⟨t3, o1_2, (IntKind.i64.wrap (o1_2 + 20)), rfl, h⟩ (Nat.lt_succ_self _) (hB := by simp only [ZZ.down, Nat.reduceEqDiff, reduceCtorEq, Nat.reduceAdd, Nat.reduceLeDiff, Nat.reduceLT, Nat.reduceBNe, EE.down, F55_len0 ht3]) (hs := by simp only [ZZ.down, Nat.reduceEqDiff, reduceCtorEq, Nat.reduceAdd, Nat.reduceLeDiff, Nat.reduceLT, Nat.reduceBNe, EE.down, F55_len0 ht3])
   ·refine ww ?_
    obtain rfl := Option.some.inj h
    exact eM [some 0] rfl
 ·rintro _ rfl
  clear ho
  refine ww ?_
  obtain ⟨t4, ht4, h⟩ := bi h
  refine cN [0] (F55_ok (e0 := e0) ht4) ⟨⟨rfl, trivial⟩, trivial⟩ ?_
  refine ww ?_
  obtain ⟨o5, ho, h⟩ := bi h
  refine cutS (fun s => s = ⟨[], [some (.arr e0 5 (o5.map eEndpoint))]⟩) ?_ ?_
  ·have h := ho
   clear ho
   refine ww ?_
   refine bL (fun j s => ∃ (o5_0 : List Endpoint) (o5_1 : Int), s = ⟨[(0, .one (.c (.own 0 e0 0 (o5_0.length) none))), (1, .one (.c (.d (.v (.int .i64 x1))))), (2, .one (.c (.fn 28 []))), (6, .one (.c (.d (.v (.int .i64 o5_1)))))], [some (.arr e0 5 (o5_0.map eEndpoint))]⟩ ∧ F44_l5 x1 j o5_0 o5_1 = some o5) 1099511627776 [some 0] ⟨t4, 20, rfl, h⟩ ?_ (hB := by simp only [ZZ.down, Nat.reduceEqDiff, reduceCtorEq, Nat.reduceAdd, Nat.reduceLeDiff, Nat.reduceLT, Nat.reduceBNe, EE.down, F55_len0 ht4]) (hs := by simp only [ZZ.down, Nat.reduceEqDiff, reduceCtorEq, Nat.reduceAdd, Nat.reduceLeDiff, Nat.reduceLT, Nat.reduceBNe, EE.down, F55_len0 ht4])
   rintro j _ ⟨o5_0, o5_1, rfl, h⟩
   cases j with
   | zero => cases (show (none : Option _) = some _ from h)
   | succ j =>
    rw [F44_l5] at h
    refine ww ?_
    refine condSh h (fun c6 h => ?_) (fun c6 h => ?_)
    ·refine ww ?_
     obtain ⟨o7, ho, h⟩ := bi h
     refine cutS (fun s => s = ⟨[(0, .one (.c (.own 0 e0 0 (o7.1.length) none))), (1, .one (.c (.d (.v (.int .i64 x1))))), (2, .one (.c (.fn 28 []))), (6, .one (.c (.d (.v (.int .i64 o5_1))))), (7, .one (.c (.d (.v (.int .i64 o7.2)))))], [some (.arr e0 5 (o7.1.map eEndpoint))]⟩) ?_ ?_
     ·have h := ho
      clear ho
      refine ww ?_
      refine bL (fun j s => ∃ (o7_0 : List Endpoint) (o7_1 : Int) (o7_2 : Int), s = ⟨[(0, .one (.c (.own 0 e0 0 (o7_0.length) none))), (1, .one (.c (.d (.v (.int .i64 x1))))), (2, .one (.c (.fn 28 []))), (6, .one (.c (.d (.v (.int .i64 o5_1))))), (7, .one (.c (.d (.v (.int .i64 o7_1))))), (8, .one (.c (.d (.v (.int .i64 o7_2)))))], [some (.arr e0 5 (o7_0.map eEndpoint))]⟩ ∧ F44_l7 o5_1 x1 j o7_0 o7_1 o7_2 = some o7) 1099511627776 [some 0] ⟨o5_0, 0, (IntKind.i64.wrap (2 * o5_1)), rfl, h⟩ ?_ (hB := by simp only [ZZ.down, Nat.reduceEqDiff, reduceCtorEq, Nat.reduceAdd, Nat.reduceLeDiff, Nat.reduceLT, Nat.reduceBNe, EE.down, F55_len0 ht4]) (hs := by simp only [ZZ.down, Nat.reduceEqDiff, reduceCtorEq, Nat.reduceAdd, Nat.reduceLeDiff, Nat.reduceLT, Nat.reduceBNe, EE.down, F55_len0 ht4])
      rintro j _ ⟨o7_0, o7_1, o7_2, rfl, h⟩
      cases j with
      | zero => cases (show (none : Option _) = some _ from h)
      | succ j =>
       rw [F44_l7] at h
       refine ww ?_
       refine condSh h (fun c8 h => ?_) (fun c8 h => ?_)
       ·refine ww ?_
        obtain ⟨t9, ht9, h⟩ := bi h
        refine callX_n [0] (F56k_ok 1099511627776 (e0 := e0) ht9) ?_ ?_ ?_ ?_ ?_ ?_
        · first | rfl | simp [nrmA, nrmC, nrm, A1.ren, C.ren, rn, List.length_set, F55_len0 ht4]
        · simp [liveAll, A1.live, C.live, hp]
        · rfl
        · decide
        · exact ⟨⟨rfl, trivial⟩, trivial⟩
        refine ww ?_
        exact eL' j [some 0] ⟨t9, o7_2, (IntKind.i64.wrap (o7_2 + ((IntKind.i64.wrap (2 * o5_1))))), rfl, h⟩ (Nat.lt_succ_self _) (hB := by simp only [ZZ.down, Nat.reduceEqDiff, reduceCtorEq, Nat.reduceAdd, Nat.reduceLeDiff, Nat.reduceLT, Nat.reduceBNe, EE.down, F55_len0 ht4, F56k_len0 ht9]) (hs := by simp only [ZZ.down, Nat.reduceEqDiff, reduceCtorEq, Nat.reduceAdd, Nat.reduceLeDiff, Nat.reduceLT, Nat.reduceBNe, EE.down, F55_len0 ht4, F56k_len0 ht9])
       ·refine ww ?_
        obtain rfl := Option.some.inj h
        exact eM [some 0] rfl (hB := by simp only [ZZ.down, Nat.reduceEqDiff, reduceCtorEq, Nat.reduceAdd, Nat.reduceLeDiff, Nat.reduceLT, Nat.reduceBNe, EE.down, F55_len0 ht4]) (hs := by simp only [ZZ.down, Nat.reduceEqDiff, reduceCtorEq, Nat.reduceAdd, Nat.reduceLeDiff, Nat.reduceLT, Nat.reduceBNe, EE.down, F55_len0 ht4])
     ·rintro _ rfl
      clear ho
      refine ww ?_
      obtain ⟨o10, ho, h⟩ := bi h
      refine cutS (fun s => s = ⟨[(0, .one (.c (.own 0 e0 0 (o10.length) none))), (1, .one (.c (.d (.v (.int .i64 x1))))), (2, .one (.c (.fn 28 []))), (6, .one (.c (.d (.v (.int .i64 o5_1)))))], [some (.arr e0 5 (o10.map eEndpoint))]⟩) ?_ ?_
      ·have h := ho
       clear ho
       refine ww ?_
       refine condSh h (fun c11 h => ?_) (fun c11 h => ?_)
       ·refine ww ?_
        obtain ⟨t12, ht12, h⟩ := bi h
        refine callX_n [0] (F56k_ok 1099511627776 (e0 := e0) ht12) ?_ ?_ ?_ ?_ ?_ ?_
        · first | rfl | simp [nrmA, nrmC, nrm, A1.ren, C.ren, rn, List.length_set, F55_len0 ht4]
        · simp [liveAll, A1.live, C.live, hp]
        · rfl
        · decide
        · exact ⟨⟨rfl, trivial⟩, trivial⟩
        refine ww ?_
        obtain rfl := Option.some.inj h
        exact eM [some 0] rfl (hB := by simp only [ZZ.down, Nat.reduceEqDiff, reduceCtorEq, Nat.reduceAdd, Nat.reduceLeDiff, Nat.reduceLT, Nat.reduceBNe, EE.down, F55_len0 ht4, F56k_len0 ht12]) (hs := by simp only [ZZ.down, Nat.reduceEqDiff, reduceCtorEq, Nat.reduceAdd, Nat.reduceLeDiff, Nat.reduceLT, Nat.reduceBNe, EE.down, F55_len0 ht4, F56k_len0 ht12])
       ·refine ww ?_
        obtain rfl := Option.some.inj h
        exact eM [some 0] rfl (hB := by simp only [ZZ.down, Nat.reduceEqDiff, reduceCtorEq, Nat.reduceAdd, Nat.reduceLeDiff, Nat.reduceLT, Nat.reduceBNe, EE.down, F55_len0 ht4]) (hs := by simp only [ZZ.down, Nat.reduceEqDiff, reduceCtorEq, Nat.reduceAdd, Nat.reduceLeDiff, Nat.reduceLT, Nat.reduceBNe, EE.down, F55_len0 ht4])
      ·rintro _ rfl
       clear ho
       refine ww ?_
       exact eL' j [some 0] ⟨o10, (IntKind.i64.wrap (o5_1 * 2)), rfl, h⟩ (Nat.lt_succ_self _) (hB := by simp only [ZZ.down, Nat.reduceEqDiff, reduceCtorEq, Nat.reduceAdd, Nat.reduceLeDiff, Nat.reduceLT, Nat.reduceBNe, EE.down, F55_len0 ht4]) (hs := by simp only [ZZ.down, Nat.reduceEqDiff, reduceCtorEq, Nat.reduceAdd, Nat.reduceLeDiff, Nat.reduceLT, Nat.reduceBNe, EE.down, F55_len0 ht4])
    ·refine ww ?_
     obtain rfl := Option.some.inj h
     exact eM [some 0] rfl (hB := by simp only [ZZ.down, Nat.reduceEqDiff, reduceCtorEq, Nat.reduceAdd, Nat.reduceLeDiff, Nat.reduceLT, Nat.reduceBNe, EE.down, F55_len0 ht4]) (hs := by simp only [ZZ.down, Nat.reduceEqDiff, reduceCtorEq, Nat.reduceAdd, Nat.reduceLeDiff, Nat.reduceLT, Nat.reduceBNe, EE.down, F55_len0 ht4])
  ·rintro _ rfl
   clear ho
   refine ww ?_
   obtain rfl := Option.some.inj h
   exact eF [some 0] (hB := by simp only [ZZ.down, Nat.reduceEqDiff, reduceCtorEq, Nat.reduceAdd, Nat.reduceLeDiff, Nat.reduceLT, Nat.reduceBNe, EE.down, F55_len0 ht4]) (hs := by simp only [ZZ.down, Nat.reduceEqDiff, reduceCtorEq, Nat.reduceAdd, Nat.reduceLeDiff, Nat.reduceLT, Nat.reduceBNe, EE.down, F55_len0 ht4])

/- slices.SortStableFunc[[]orchestrator/api.Endpoint,orchestrator/api.Endpoint] -/
def F27i (x0 : (List Endpoint)) : Option ((List Endpoint)) := (F44 x0 ((x0.length : Int))).bind fun t1 => some t1
def F27 (x0 : (List Endpoint)) : Option ((List Endpoint)) := (F27i x0).bind fun r => if r.length = x0.length then some r else none
theorem F27_len0 {x0 : (List Endpoint)} {r : (List Endpoint)} (h : F27 x0 = some r) : r.length = x0.length := (guard_some h).2
def a27 : AFn := ⟨9, [],
 (.reg [sq 4 (.mv (.t 0)),
sq 5 (.mv (.t 0)),
sq 6 (.len (.t 5)),
sq 7 (.mv (.t 1)),
⟨(some 8), none, .call 44 [(.t 4), (.t 6), (.t 7)], [], (.lone [5])⟩])⟩
theorem a27_ok : afn Try.prog 27 = some a27.er := by kernel_rfl
theorem F27_ok {x0 : (List Endpoint)} {r : (List Endpoint)} {e0 : Nat} (h : F27 x0 = some r) : CallD Try.prog 27 [.c (.own 0 e0 0 (x0.length) none), .c (.fn 28 [])] [some (.arr e0 5 (x0.map eEndpoint))] (tupV []) [some (.arr e0 5 (r.map eEndpoint))] := by
 replace h := (guard_some h).1
 refine callS a27_ok (by simp [a27]) ?_
 rw [F27i] at h
 simp only [a27, VW.down, Nat.reduceEqDiff, reduceCtorEq, Nat.reduceAdd, Nat.reduceLeDiff, Nat.reduceLT, Nat.reduceBEq, Nat.reduceSub, EE.down]
 obtain ⟨t1, ht1, h⟩ := bi h
 refine cN [0] (F44_ok (e0 := e0) ht1) ⟨⟨rfl, trivial⟩, trivial⟩ ?_
 refine ww ?_
 obtain rfl := Option.some.inj h
 exact eF [some 0] (hB := by simp only [ZZ.down, Nat.reduceEqDiff, reduceCtorEq, Nat.reduceAdd, Nat.reduceLeDiff, Nat.reduceLT, Nat.reduceBNe, EE.down, F44_len0 ht1]) (hs := by simp only [ZZ.down, Nat.reduceEqDiff, reduceCtorEq, Nat.reduceAdd, Nat.reduceLeDiff, Nat.reduceLT, Nat.reduceBNe, EE.down, F44_len0 ht1])

/- orchestrator/endpoints.Of -/
def F10_l2 (x0 : Service) : List Pod → Nat → (List Endpoint) → Option ((List Endpoint))
  | [], o2_1, o2_0 => some o2_0
  | xo2 :: xs, o2_1, o2_0 => (((F25 x0 xo2).bind fun t5 => (if t5 = true then (F26 xo2.Meta).bind fun t7 => (if xo2.Status.Ready = true then (apI o2_0 ([(⟨t7, xo2.Spec.Node, xo2.Status.Address, nb xo2.Meta.Deleting, xo2.Meta.Deleting⟩ : Endpoint)])).bind fun a9 => some a9 else (apI o2_0 ([(⟨t7, xo2.Spec.Node, xo2.Status.Address, false, xo2.Meta.Deleting⟩ : Endpoint)])).bind fun a10 => some a10) else some o2_0)).bind fun o4 => F10_l2 x0 xs (o2_1 + 1) o4)
def F10 (x0 : Service) (x1 : (List Pod)) : Option ((List ServicePort) × (List Endpoint)) := (cloneI x0.Ports).bind fun t1 => (((ck (0 ≤ x1.length ∧ x1.length ≤ 4294967290)).bind fun u11 => F10_l2 x0 x1 0 ([])).bind fun o2 => (F27 o2).bind fun t12 => some ((t1, t12)))
def a10 : AFn := ⟨60, [(.cell 4 (some 15))],
 (.seq (.reg [sq 2 (.box (.t 0)),
sq 4 (.zbox [.d (.v (.string ⟨#[]⟩)), .d (.v (.string ⟨#[]⟩)), .d (.v (.string ⟨#[]⟩)), .d (.v (.int .i64 0)), .d (.v (.int .i64 0)), .d (.v (.int .i64 0)), .d (.v (.int .i64 0)), .d (.v (.bool false)), .d (.v (.int .i64 0)), .d (.v (.slice none 0 0)), .d (.v (.slice none 0 0)), .d (.v (.slice none 0 0)), .d (.v (.slice none 0 0)), .d (.v (.slice none 0 0)), .d (.v (.slice none 0 0))])])
 (.seq (.regd [sq 8 (.fieldA 0 (.t 2)),
sd 9 (.fieldA 1 (.t 8)) [0],
sd 10 (.load none (.t 9)) [0, 1],
sq 11 (.fieldA 0 (.t 2)),
sd 12 (.fieldA 2 (.t 11)) [3],
sd 13 (.load none (.t 12)) [3, 4],
sd 14 (.build [.d (.v (.string ⟨#[]⟩)), .d (.v (.string ⟨#[]⟩)), .d (.v (.string ⟨#[]⟩)), .d (.v (.int .i64 0)), .d (.v (.int .i64 0)), .d (.v (.int .i64 0)), .d (.v (.int .i64 0)), .d (.v (.bool false)), .d (.v (.int .i64 0)), .d (.v (.slice none 0 0)), .d (.v (.slice none 0 0)), .d (.v (.slice none 0 0)), .d (.v (.slice none 0 0))] [(0, 1, (kS ⟨#[69, 110, 100, 112, 111, 105, 110, 116, 83, 101, 116]⟩)), (1, 1, (.t 10)), (2, 1, (.t 13))]) [0, 1, 2, 3, 4, 5],
sq 15 (.fieldA 14 (.t 2)),
sd 16 (.load none (.t 15)) [7],
⟨(some 17), none, .call 24 [(.t 16)], [7, 8], (.new [7, 8])⟩,
sd 18 (.build [.d (.v (.string ⟨#[]⟩)), .d (.v (.string ⟨#[]⟩)), .d (.v (.string ⟨#[]⟩)), .d (.v (.int .i64 0)), .d (.v (.int .i64 0)), .d (.v (.int .i64 0)), .d (.v (.int .i64 0)), .d (.v (.bool false)), .d (.v (.int .i64 0)), .d (.v (.slice none 0 0)), .d (.v (.slice none 0 0)), .d (.v (.slice none 0 0)), .d (.v (.slice none 0 0)), .d (.v (.slice none 0 0)), .d (.v (.slice none 0 0))] [(0, 13, (.t 14)), (13, 1, (.t 17))]) [0, 1, 2, 3, 4, 5, 6, 7, 8, 9],
sq 5 (.zbox [.d (.v (.string ⟨#[]⟩)), .d (.v (.string ⟨#[]⟩)), .d (.v (.string ⟨#[]⟩)), .d (.v (.int .i64 0)), .d (.v (.int .i64 0)), .d (.v (.int .i64 0)), .d (.v (.int .i64 0)), .d (.v (.bool false)), .d (.v (.int .i64 0)), .d (.v (.slice none 0 0)), .d (.v (.slice none 0 0)), .d (.v (.slice none 0 0)), .d (.v (.slice none 0 0)), .d (.v (.slice none 0 0)), .d (.v (.slice none 0 0))]),
⟨none, none, .store 15 (.t 5) (.t 18), [0, 1, 2, 3, 4, 5, 6, 7, 8, 9, 10, 11], (.lone [])⟩])
 (.seq (.seq (.reg [sq 19 (.mv (.t 1)),
sq 20 (.len (.t 19)),
sq 21 (.mv (kI 0))])
 (.sem (.block 0 (.loop (.seq (.reg [sq 22 (.bin .lss (.t 21) (.t 20))])
 (.seq (.cond (.t 22)
 .skip
 (.exit 0))
 (.seq (.sem (.block 1 (.seq (.reg [sq 23 (.indexA 32 (.t 19) (.t 21)),
sq 24 (.load (some 32) (.t 23)),
sq 7 (.zbox [.d (.v (.string ⟨#[]⟩)), .d (.v (.string ⟨#[]⟩)), .d (.v (.string ⟨#[]⟩)), .d (.v (.int .i64 0)), .d (.v (.int .i64 0)), .d (.v (.int .i64 0)), .d (.v (.int .i64 0)), .d (.v (.bool false)), .d (.v (.int .i64 0)), .d (.v (.slice none 0 0)), .d (.v (.slice none 0 0)), .d (.v (.slice none 0 0)), .d (.v (.slice none 0 0)), .d (.v (.string ⟨#[]⟩)), .d (.v (.int .i64 0)), .d (.v (.int .i64 0)), .d (.v (.int .i64 0)), .d (.v (.slice none 0 0)), .d (.v (.slice none 0 0)), .d (.v (.slice none 0 0)), .d (.v (.slice none 0 0)), .d (.v (.slice none 0 0)), .d (.v (.slice none 0 0)), .d (.v (.int .i64 0)), .d (.v (.bool false)), .d (.v (.int .i64 0)), .d (.v (.int .i64 0)), .d (.v (.int .i64 0)), .d (.v (.slice none 0 0)), .d (.v (.int .i64 0)), .d (.v (.string ⟨#[]⟩)), .d (.v (.string ⟨#[]⟩))]),
su (.store 32 (.t 7) (.t 24))])
 (.seq (.reg [sq 25 (.load (some 17) (.t 2)),
sq 26 (.load (some 32) (.t 7)),
⟨(some 27), none, .call 25 [(.t 25), (.t 26)], [], (.lone [2, 7])⟩])
 (.cond (.t 27)
 (.regd [sq 28 (.fieldA 14 (.t 5)),
sd 29 (.load none (.t 28)) [0],
sq 30 (.fieldA 0 (.t 7)),
sd 31 (.load (some 13) (.t 30)) [2],
⟨(some 32), none, .call 26 [(.t 31)], [2, 3], (.new [2, 3])⟩,
sq 33 (.fieldA 13 (.t 7)),
sd 34 (.fieldA 0 (.t 33)) [5],
sd 35 (.load none (.t 34)) [5, 6],
sq 36 (.fieldA 23 (.t 7)),
sd 37 (.fieldA 6 (.t 36)) [8],
sd 38 (.load none (.t 37)) [8, 9],
sq 39 (.fieldA 23 (.t 7)),
sd 40 (.fieldA 1 (.t 39)) [11],
sd 41 (.load none (.t 40)) [11, 12],
sd 42 (.mv (.t 41)) [2, 3, 4, 11, 12, 13],
⟨(some 43), (some (42, true)), .fieldA 0 (.t 7), [2, 3, 4, 11, 12, 13, 14], (.new [])⟩,
⟨(some 44), (some (42, true)), .fieldA 7 (.t 43), [2, 3, 4, 11, 12, 13, 14, 15], (.new [])⟩,
⟨(some 45), (some (42, true)), .load none (.t 44), [2, 3, 4, 11, 12, 13, 14, 15, 16], (.new [])⟩,
⟨(some 46), (some (42, true)), .not (.t 45), [2, 3, 4, 11, 12, 13, 14, 15, 16, 17], (.new [])⟩,
sd 47 (.pick (.t 42) (.t 46) (kB false)) [2, 3, 4, 11, 12, 13, 14, 15, 16, 17, 18],
sq 48 (.fieldA 0 (.t 7)),
sd 49 (.fieldA 7 (.t 48)) [20],
sd 50 (.load none (.t 49)) [20, 21],
⟨(some 51), none, .build [.d (.v (.string ⟨#[]⟩)), .d (.v (.string ⟨#[]⟩)), .d (.v (.int .i64 0)), .d (.v (.bool false)), .d (.v (.bool false))] [(0, 1, (.t 32)), (1, 1, (.t 35)), (2, 1, (.t 38)), (3, 1, (.t 47)), (4, 1, (.t 50))], [2, 3, 4, 5, 6, 7, 8, 9, 10, 11, 12, 13, 14, 15, 16, 17, 18, 19, 20, 21, 22], (.lone [5, 28])⟩,
⟨(some 52), none, .bslice 5 [(.t 51)], [2, 3, 4, 5, 6, 7, 8, 9, 10, 11, 12, 13, 14, 15, 16, 17, 18, 19, 20, 21, 22, 23], (.lone [5, 28])⟩,
⟨(some 53), none, .app 5 48 (.t 29) (.t 52), [0, 1, 2, 3, 4, 5, 6, 7, 8, 9, 10, 11, 12, 13, 14, 15, 16, 17, 18, 19, 20, 21, 22, 23, 24], (.lone [])⟩,
sd 54 (.fieldA 14 (.t 5)) [0, 1, 2, 3, 4, 5, 6, 7, 8, 9, 10, 11, 12, 13, 14, 15, 16, 17, 18, 19, 20, 21, 22, 23, 24, 25],
⟨none, none, .store 1 (.t 54) (.t 53), [0, 1, 2, 3, 4, 5, 6, 7, 8, 9, 10, 11, 12, 13, 14, 15, 16, 17, 18, 19, 20, 21, 22, 23, 24, 25, 26], (.lone [])⟩])
 .skip)))))
 (.reg [sq 55 (.bin .add (.t 21) (kI 1)),
sq 21 (.mv (.t 55))]))))))))
 (.seq (.reg [sq 56 (.fieldA 14 (.t 5)),
sq 57 (.load none (.t 56)),
⟨(some 58), none, .call 27 [(.t 57), (.f 28)], [], (.lone [5, 56])⟩])
 (.seq (.reg [sq 59 (.load (some 15) (.t 5)),
⟨none, none, .store 15 (.t 4) (.t 59), [], (.lone [5])⟩])
 .ret)))))⟩
theorem a10_ok : afn Try.prog 10 = some a10.er := by kernel_rfl
theorem F10_ok {x0 : Service} {x1 : (List Pod)} {r : (List ServicePort) × (List Endpoint)} (h : F10 x0 x1 = some r) : CallD Try.prog 10 [.agg [.d (.v (.string x0.Meta.Kind)), .d (.v (.string x0.Meta.Namespace)), .d (.v (.string x0.Meta.Name)), .d (.v (.int .i64 x0.Meta.Uid)), .d (.v (.int .i64 x0.Meta.Version)), .d (.v (.int .i64 x0.Meta.Generation)), .d (.v (.int .i64 x0.Meta.Created)), .d (.v (.bool x0.Meta.Deleting)), .d (.v (.int .i64 x0.Meta.DeleteAt)), .d (.sl (x0.Meta.Labels.map eLabel)), .d (.sl (x0.Meta.Owners.map eOwner)), .d (.sl (x0.Meta.Finalizers.map eS)), .d (.sl (x0.Meta.Managers.map eManager)), .d (.sl (x0.Selector.map eRequirement)), .d (.sl (x0.Ports.map eServicePort)), .d (.v (.bool x0.Sticky)), .d (.v (.int .i64 x0.Address))], .c (.d (.sl (x1.map ePod)))] [] (tupV [.agg [.d (.v (.string ((⟨#[69, 110, 100, 112, 111, 105, 110, 116, 83, 101, 116]⟩ : ByteArray)))), .d (.v (.string x0.Meta.Namespace)), .d (.v (.string x0.Meta.Name)), .d (.v (.int .i64 0)), .d (.v (.int .i64 0)), .d (.v (.int .i64 0)), .d (.v (.int .i64 0)), .d (.v (.bool false)), .d (.v (.int .i64 0)), .d (.sl (([] : List Label).map eLabel)), .d (.sl (([] : List Owner).map eOwner)), .d (.sl (([] : List ByteArray).map eS)), .d (.sl (([] : List Manager).map eManager)), .own 0 0 0 (r.1.length) none, .own 1 0 0 (r.2.length) none]]) [some (.arr 0 3 (r.1.map eServicePort)), some (.arr 0 5 (r.2.map eEndpoint))] := by
 refine callS a10_ok (by simp [a10]) ?_
 rw [F10] at h
 simp only [a10, VW.down, Nat.reduceEqDiff, reduceCtorEq, Nat.reduceAdd, Nat.reduceLeDiff, Nat.reduceLT, Nat.reduceBEq, Nat.reduceSub, EE.down]
 obtain ⟨t1, ht1, h⟩ := bi h
 refine cN [] (F24_ok ht1) trivial ?_
 refine ww ?_
 refine kD_new (by simp [wrs, allW, hset]) ?_
 refine ww ?_
 refine kD_new (by simp [wrs, allW, hset]) ?_
 refine ww ?_
 obtain ⟨o2, ho, h⟩ := bi h
 refine cutS (fun s => s = ⟨[(4, .one (.c (.pt 0 0))), (5, .one (.c (.pt 1 0)))], [some (.box [.d (.v (.string ((⟨#[]⟩ : ByteArray)))), .d (.v (.string ((⟨#[]⟩ : ByteArray)))), .d (.v (.string ((⟨#[]⟩ : ByteArray)))), .d (.v (.int .i64 0)), .d (.v (.int .i64 0)), .d (.v (.int .i64 0)), .d (.v (.int .i64 0)), .d (.v (.bool false)), .d (.v (.int .i64 0)), .d (.v (.slice none 0 0)), .d (.v (.slice none 0 0)), .d (.v (.slice none 0 0)), .d (.v (.slice none 0 0)), .d (.v (.slice none 0 0)), .d (.v (.slice none 0 0))]), some (.box [.d (.v (.string ((⟨#[69, 110, 100, 112, 111, 105, 110, 116, 83, 101, 116]⟩ : ByteArray)))), .d (.v (.string x0.Meta.Namespace)), .d (.v (.string x0.Meta.Name)), .d (.v (.int .i64 0)), .d (.v (.int .i64 0)), .d (.v (.int .i64 0)), .d (.v (.int .i64 0)), .d (.v (.bool false)), .d (.v (.int .i64 0)), .d (.v (.slice none 0 0)), .d (.v (.slice none 0 0)), .d (.v (.slice none 0 0)), .d (.v (.slice none 0 0)), .own 2 0 0 (t1.length) none, .own 3 0 0 (o2.length) none]), some (.arr 0 3 (t1.map eServicePort)), some (.arr 0 5 (o2.map eEndpoint))]⟩) ?_ ?_
 ·have h := ho
  clear ho
  obtain ⟨_, hk, h⟩ := bi h
  have hk := ck_some hk
  refine ww ?_
  refine bL (fun j s => ∃ (o2_1 : Nat) (o2_0 : List Endpoint), (o2_1 ≤ x1.length ∧ j = x1.length - o2_1) ∧ s = ⟨[(2, .one (.c (.pt 0 0))), (4, .one (.c (.pt 1 0))), (5, .one (.c (.pt 2 0))), (19, .one (.c (.d (.sl (x1.map ePod))))), (20, .one (.c (.d (.v (.int .i64 ((x1.length : Int))))))), (21, .one (.c (.d (.v (.int .i64 ((o2_1 : Int)))))))], [some (.box [.d (.v (.string x0.Meta.Kind)), .d (.v (.string x0.Meta.Namespace)), .d (.v (.string x0.Meta.Name)), .d (.v (.int .i64 x0.Meta.Uid)), .d (.v (.int .i64 x0.Meta.Version)), .d (.v (.int .i64 x0.Meta.Generation)), .d (.v (.int .i64 x0.Meta.Created)), .d (.v (.bool x0.Meta.Deleting)), .d (.v (.int .i64 x0.Meta.DeleteAt)), .d (.sl (x0.Meta.Labels.map eLabel)), .d (.sl (x0.Meta.Owners.map eOwner)), .d (.sl (x0.Meta.Finalizers.map eS)), .d (.sl (x0.Meta.Managers.map eManager)), .d (.sl (x0.Selector.map eRequirement)), .d (.sl (x0.Ports.map eServicePort)), .d (.v (.bool x0.Sticky)), .d (.v (.int .i64 x0.Address))]), some (.box [.d (.v (.string ((⟨#[]⟩ : ByteArray)))), .d (.v (.string ((⟨#[]⟩ : ByteArray)))), .d (.v (.string ((⟨#[]⟩ : ByteArray)))), .d (.v (.int .i64 0)), .d (.v (.int .i64 0)), .d (.v (.int .i64 0)), .d (.v (.int .i64 0)), .d (.v (.bool false)), .d (.v (.int .i64 0)), .d (.v (.slice none 0 0)), .d (.v (.slice none 0 0)), .d (.v (.slice none 0 0)), .d (.v (.slice none 0 0)), .d (.v (.slice none 0 0)), .d (.v (.slice none 0 0))]), some (.box [.d (.v (.string ((⟨#[69, 110, 100, 112, 111, 105, 110, 116, 83, 101, 116]⟩ : ByteArray)))), .d (.v (.string x0.Meta.Namespace)), .d (.v (.string x0.Meta.Name)), .d (.v (.int .i64 0)), .d (.v (.int .i64 0)), .d (.v (.int .i64 0)), .d (.v (.int .i64 0)), .d (.v (.bool false)), .d (.v (.int .i64 0)), .d (.v (.slice none 0 0)), .d (.v (.slice none 0 0)), .d (.v (.slice none 0 0)), .d (.v (.slice none 0 0)), .own 3 0 0 (t1.length) none, .own 4 0 0 (o2_0.length) none]), some (.arr 0 3 (t1.map eServicePort)), some (.arr 0 5 (o2_0.map eEndpoint))]⟩ ∧ F10_l2 x0 (x1.drop o2_1) o2_1 o2_0 = some o2) (x1.length - 0) [some 0, some 1, some 3, some 2, none] ⟨0, [], ⟨hk.1, rfl⟩, rfl, h⟩ ?_
  rintro _ _ ⟨o2_1, o2_0, ⟨hi, rfl⟩, rfl, h⟩
  refine ww ?_
  refine condS (fun c3 => ?_) (fun c3 => ?_)
  ·obtain ⟨xo2, hxo2, hd⟩ := countY (show (o2_1 : Int) < (x1.length : Int) from c3)
   rw [hd, F10_l2] at h
   refine ww ?_
   obtain ⟨o4, ho, h⟩ := bi h
   refine cutS (fun s => s = ⟨[(2, .one (.c (.pt 0 0))), (4, .one (.c (.pt 1 0))), (5, .one (.c (.pt 2 0))), (19, .one (.c (.d (.sl (x1.map ePod))))), (20, .one (.c (.d (.v (.int .i64 ((x1.length : Int))))))), (21, .one (.c (.d (.v (.int .i64 ((o2_1 : Int)))))))], [some (.box [.d (.v (.string x0.Meta.Kind)), .d (.v (.string x0.Meta.Namespace)), .d (.v (.string x0.Meta.Name)), .d (.v (.int .i64 x0.Meta.Uid)), .d (.v (.int .i64 x0.Meta.Version)), .d (.v (.int .i64 x0.Meta.Generation)), .d (.v (.int .i64 x0.Meta.Created)), .d (.v (.bool x0.Meta.Deleting)), .d (.v (.int .i64 x0.Meta.DeleteAt)), .d (.sl (x0.Meta.Labels.map eLabel)), .d (.sl (x0.Meta.Owners.map eOwner)), .d (.sl (x0.Meta.Finalizers.map eS)), .d (.sl (x0.Meta.Managers.map eManager)), .d (.sl (x0.Selector.map eRequirement)), .d (.sl (x0.Ports.map eServicePort)), .d (.v (.bool x0.Sticky)), .d (.v (.int .i64 x0.Address))]), some (.box [.d (.v (.string ((⟨#[]⟩ : ByteArray)))), .d (.v (.string ((⟨#[]⟩ : ByteArray)))), .d (.v (.string ((⟨#[]⟩ : ByteArray)))), .d (.v (.int .i64 0)), .d (.v (.int .i64 0)), .d (.v (.int .i64 0)), .d (.v (.int .i64 0)), .d (.v (.bool false)), .d (.v (.int .i64 0)), .d (.v (.slice none 0 0)), .d (.v (.slice none 0 0)), .d (.v (.slice none 0 0)), .d (.v (.slice none 0 0)), .d (.v (.slice none 0 0)), .d (.v (.slice none 0 0))]), some (.box [.d (.v (.string ((⟨#[69, 110, 100, 112, 111, 105, 110, 116, 83, 101, 116]⟩ : ByteArray)))), .d (.v (.string x0.Meta.Namespace)), .d (.v (.string x0.Meta.Name)), .d (.v (.int .i64 0)), .d (.v (.int .i64 0)), .d (.v (.int .i64 0)), .d (.v (.int .i64 0)), .d (.v (.bool false)), .d (.v (.int .i64 0)), .d (.v (.slice none 0 0)), .d (.v (.slice none 0 0)), .d (.v (.slice none 0 0)), .d (.v (.slice none 0 0)), .own 3 0 0 (t1.length) none, .own 4 0 0 (o4.length) none]), some (.arr 0 3 (t1.map eServicePort)), some (.arr 0 5 (o4.map eEndpoint))]⟩) ?_ ?_
   ·have h := ho
    clear ho
    refine ww ?_
    refine t_idxF (enc := ePod) (xs := x1) rfl rfl hxo2 rfl ?_
    refine ww ?_
    obtain ⟨t5, ht5, h⟩ := bi h
    refine cN [] (F25_ok ht5) trivial ?_
    refine ww ?_
    refine condBh h (fun c6 h => ?_) (fun c6 h => ?_)
    ·refine ww ?_
     obtain ⟨t7, ht7, h⟩ := bi h
     refine cN [] (F26_ok ht7) trivial ?_
     refine ww ?_
     refine guardDBh h (fun g8 h => ?_) (fun g8 h => ?_)
     ·refine ww ?_
      refine t_bslice (enc := eEndpoint) (ys := [(⟨t7, xo2.Spec.Node, xo2.Status.Address, nb xo2.Meta.Deleting, xo2.Meta.Deleting⟩ : Endpoint)]) rfl rfl (by simp [A1.cells]) (by first | rfl | (simp only [List.drop_zero, take_mapL]; rfl) | (simp only [lit, List.map_cons, List.map_nil, List.drop_zero, take_mapL, EE.down]; done) | (simp only [lit, List.map_cons, List.map_nil, List.drop_zero, take_mapL, EE.down]; rfl)) ?_
      refine ww ?_
      obtain ⟨a9, ha9, h⟩ := bi h
      refine t_app (enc := eEndpoint) (xs := o2_0) rfl rfl (by first | rfl | simp only [List.length_set] | exact (clrL_len (slI_len (by assumption))).symm) rfl (rows_full (enc := eEndpoint) (by first | rfl | simp only [List.length_set] | exact (clrL_len (slI_len (by assumption))).symm) rfl) ha9 ?_
      refine ww ?_
      obtain rfl := Option.some.inj h
      exact eM [some 0, some 1, some 2, some 3, some 4] rfl
     ·refine ww ?_
      refine t_bslice (enc := eEndpoint) (ys := [(⟨t7, xo2.Spec.Node, xo2.Status.Address, false, xo2.Meta.Deleting⟩ : Endpoint)]) rfl rfl (by simp [A1.cells]) (by first | rfl | (simp only [List.drop_zero, take_mapL]; rfl) | (simp only [lit, List.map_cons, List.map_nil, List.drop_zero, take_mapL, EE.down]; done) | (simp only [lit, List.map_cons, List.map_nil, List.drop_zero, take_mapL, EE.down]; rfl)) ?_
      refine ww ?_
      obtain ⟨a10, ha10, h⟩ := bi h
      refine t_app (enc := eEndpoint) (xs := o2_0) rfl rfl (by first | rfl | simp only [List.length_set] | exact (clrL_len (slI_len (by assumption))).symm) rfl (rows_full (enc := eEndpoint) (by first | rfl | simp only [List.length_set] | exact (clrL_len (slI_len (by assumption))).symm) rfl) ha10 ?_
      refine ww ?_
      obtain rfl := Option.some.inj h
      exact eM [some 0, some 1, some 2, some 3, some 4] rfl
    ·refine ww ?_
     obtain rfl := Option.some.inj h
     exact eM [some 0, some 1, some 2, some 3, some 4] rfl
   ·rintro _ rfl
    clear ho
    refine ww ?_
    rw [wrapN (by omega)]
    exact eL' (x1.length - (o2_1 + 1)) [some 0, some 1, some 2, some 3, some 4] ⟨o2_1 + 1, o4, ⟨by omega, rfl⟩, rfl, h⟩ (by omega)
  ·rw [countN (show ¬ ((o2_1 : Int) < (x1.length : Int)) from c3), F10_l2] at h
   refine ww ?_
   obtain rfl := Option.some.inj h
   exact eM [some 1, some 2, some 3, some 4] rfl
 ·rintro _ rfl
  clear ho
  refine ww ?_
  obtain ⟨t12, ht12, h⟩ := bi h
  refine cN [3] (F27_ok (e0 := 0) ht12) ⟨⟨rfl, trivial⟩, trivial⟩ ?_
  refine ww ?_
  obtain rfl := Option.some.inj h
  exact eF [some 2, some 3] (hB := by simp only [ZZ.down, Nat.reduceEqDiff, reduceCtorEq, Nat.reduceAdd, Nat.reduceLeDiff, Nat.reduceLT, Nat.reduceBNe, EE.down, F27_len0 ht12]) (hs := by simp only [ZZ.down, Nat.reduceEqDiff, reduceCtorEq, Nat.reduceAdd, Nat.reduceLeDiff, Nat.reduceLT, Nat.reduceBNe, EE.down, F27_len0 ht12])
end Go.Proofs.Ytfkkccgopmcnaaa
