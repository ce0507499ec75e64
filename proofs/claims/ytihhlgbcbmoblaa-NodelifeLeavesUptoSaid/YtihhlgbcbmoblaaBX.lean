/- Each Go function as a function over typed data, and its walk. -/
import Derived.Test.YtihhlgbcbmoblaaFE
import Derived.Ground.NamesProg
import Derived.Shelf.Lay
import Derived.KernelRfl
import Derived.Test.YtihhlgbcbmoblaaProg
namespace Go.Proofs.Ytihhlgbcbmoblaa
open Go Go.Fw Go.Shelf
set_option maxRecDepth 100000
set_option maxHeartbeats 4000000
set_option linter.unusedSimpArgs false
set_option linter.unusedVariables false
structure Label where
  Key : ByteArray
  Value : ByteArray
  deriving DecidableEq
def okLabel (x : Label) : Prop := okT x.Key ∧ okT x.Value ∧ True
def wLabel (x : Label) : Nat := wS x.Key + (wS x.Value + 0) + 1
def eLabel (x : Label) : List D := [.v (.string x.Key), .v (.string x.Value)]
structure Owner where
  Kind : ByteArray
  Name : ByteArray
  Uid : Int
  Controller : Bool
  Block : Bool
  deriving DecidableEq
def okOwner (x : Owner) : Prop := okT x.Kind ∧ okT x.Name ∧ okN x.Uid ∧ okT x.Controller ∧ okT x.Block ∧ True
def wOwner (x : Owner) : Nat := wS x.Kind + (wS x.Name + (wN x.Uid + (wN x.Controller + (wN x.Block + 0)))) + 1
def eOwner (x : Owner) : List D := [.v (.string x.Kind), .v (.string x.Name), .v (.int .i64 x.Uid), .v (.bool x.Controller), .v (.bool x.Block)]
structure Manager where
  Name : ByteArray
  Fields : (List ByteArray)
  deriving DecidableEq
def okManager (x : Manager) : Prop := okT x.Name ∧ (okL okT) x.Fields ∧ True
def wManager (x : Manager) : Nat := wS x.Name + ((wL wS) x.Fields + 0) + 1
def eManager (x : Manager) : List D := [.v (.string x.Name), .sl (x.Fields.map eS)]
structure Meta where
  Kind : ByteArray
  Namespace : ByteArray
  Name : ByteArray
  Uid : Int
  Version : Int
  Generation : Int
  Created : Int
  Deleting : Bool
  DeleteAt : Int
  Labels : (List Label)
  Owners : (List Owner)
  Finalizers : (List ByteArray)
  Managers : (List Manager)
  deriving DecidableEq
def okMeta (x : Meta) : Prop := okT x.Kind ∧ okT x.Namespace ∧ okT x.Name ∧ okN x.Uid ∧ okN x.Version ∧ okN x.Generation ∧ okN x.Created ∧ okT x.Deleting ∧ okN x.DeleteAt ∧ (okL okLabel) x.Labels ∧ (okL okOwner) x.Owners ∧ (okL okT) x.Finalizers ∧ (okL okManager) x.Managers ∧ True
def wMeta (x : Meta) : Nat := wS x.Kind + (wS x.Namespace + (wS x.Name + (wN x.Uid + (wN x.Version + (wN x.Generation + (wN x.Created + (wN x.Deleting + (wN x.DeleteAt + ((wL wLabel) x.Labels + ((wL wOwner) x.Owners + ((wL wS) x.Finalizers + ((wL wManager) x.Managers + 0)))))))))))) + 1
def eMeta (x : Meta) : List D := [.v (.string x.Kind), .v (.string x.Namespace), .v (.string x.Name), .v (.int .i64 x.Uid), .v (.int .i64 x.Version), .v (.int .i64 x.Generation), .v (.int .i64 x.Created), .v (.bool x.Deleting), .v (.int .i64 x.DeleteAt), .sl (x.Labels.map eLabel), .sl (x.Owners.map eOwner), .sl (x.Finalizers.map eS), .sl (x.Managers.map eManager)]
structure Resources where
  CPU : Int
  Memory : Int
  Disk : Int
  deriving DecidableEq
def okResources (x : Resources) : Prop := okN x.CPU ∧ okN x.Memory ∧ okN x.Disk ∧ True
def wResources (x : Resources) : Nat := wN x.CPU + (wN x.Memory + (wN x.Disk + 0)) + 1
def eResources (x : Resources) : List D := [.v (.int .i64 x.CPU), .v (.int .i64 x.Memory), .v (.int .i64 x.Disk)]
structure Taint where
  Key : ByteArray
  Value : ByteArray
  Effect : Int
  Since : Int
  deriving DecidableEq
def okTaint (x : Taint) : Prop := okT x.Key ∧ okT x.Value ∧ okN x.Effect ∧ okN x.Since ∧ True
def wTaint (x : Taint) : Nat := wS x.Key + (wS x.Value + (wN x.Effect + (wN x.Since + 0))) + 1
def eTaint (x : Taint) : List D := [.v (.string x.Key), .v (.string x.Value), .v (.int .i64 x.Effect), .v (.int .i64 x.Since)]
structure Image where
  Name : ByteArray
  Size : Int
  Used : Int
  deriving DecidableEq
def okImage (x : Image) : Prop := okT x.Name ∧ okN x.Size ∧ okN x.Used ∧ True
def wImage (x : Image) : Nat := wS x.Name + (wN x.Size + (wN x.Used + 0)) + 1
def eImage (x : Image) : List D := [.v (.string x.Name), .v (.int .i64 x.Size), .v (.int .i64 x.Used)]
structure Node where
  Meta : Meta
  Capacity : Resources
  MaxPods : Int
  Cordoned : Bool
  Taints : (List Taint)
  Ready : Bool
  Beat : Int
  LowMem : Bool
  LowDisk : Bool
  Images : (List Image)
  deriving DecidableEq
def okNode (x : Node) : Prop := okMeta x.Meta ∧ okResources x.Capacity ∧ okN x.MaxPods ∧ okT x.Cordoned ∧ (okL okTaint) x.Taints ∧ okT x.Ready ∧ okN x.Beat ∧ okT x.LowMem ∧ okT x.LowDisk ∧ (okL okImage) x.Images ∧ True
def wNode (x : Node) : Nat := wMeta x.Meta + (wResources x.Capacity + (wN x.MaxPods + (wN x.Cordoned + ((wL wTaint) x.Taints + (wN x.Ready + (wN x.Beat + (wN x.LowMem + (wN x.LowDisk + ((wL wImage) x.Images + 0))))))))) + 1
def eNode (x : Node) : List D := [.v (.string x.Meta.Kind), .v (.string x.Meta.Namespace), .v (.string x.Meta.Name), .v (.int .i64 x.Meta.Uid), .v (.int .i64 x.Meta.Version), .v (.int .i64 x.Meta.Generation), .v (.int .i64 x.Meta.Created), .v (.bool x.Meta.Deleting), .v (.int .i64 x.Meta.DeleteAt), .sl (x.Meta.Labels.map eLabel), .sl (x.Meta.Owners.map eOwner), .sl (x.Meta.Finalizers.map eS), .sl (x.Meta.Managers.map eManager), .v (.int .i64 x.Capacity.CPU), .v (.int .i64 x.Capacity.Memory), .v (.int .i64 x.Capacity.Disk), .v (.int .i64 x.MaxPods), .v (.bool x.Cordoned), .sl (x.Taints.map eTaint), .v (.bool x.Ready), .v (.int .i64 x.Beat), .v (.bool x.LowMem), .v (.bool x.LowDisk), .sl (x.Images.map eImage)]
structure Probe where
  Delay : Int
  Period : Int
  Success : Int
  Failure : Int
  deriving DecidableEq
def okProbe (x : Probe) : Prop := okN x.Delay ∧ okN x.Period ∧ okN x.Success ∧ okN x.Failure ∧ True
def wProbe (x : Probe) : Nat := wN x.Delay + (wN x.Period + (wN x.Success + (wN x.Failure + 0))) + 1
def eProbe (x : Probe) : List D := [.v (.int .i64 x.Delay), .v (.int .i64 x.Period), .v (.int .i64 x.Success), .v (.int .i64 x.Failure)]
structure Container where
  Name : ByteArray
  Image : ByteArray
  Request : Resources
  Limit : Resources
  Live : (List Probe)
  Ready : (List Probe)
  Startup : (List Probe)
  deriving DecidableEq
def okContainer (x : Container) : Prop := okT x.Name ∧ okT x.Image ∧ okResources x.Request ∧ okResources x.Limit ∧ (okL okProbe) x.Live ∧ (okL okProbe) x.Ready ∧ (okL okProbe) x.Startup ∧ True
def wContainer (x : Container) : Nat := wS x.Name + (wS x.Image + (wResources x.Request + (wResources x.Limit + ((wL wProbe) x.Live + ((wL wProbe) x.Ready + ((wL wProbe) x.Startup + 0)))))) + 1
def eContainer (x : Container) : List D := [.v (.string x.Name), .v (.string x.Image), .v (.int .i64 x.Request.CPU), .v (.int .i64 x.Request.Memory), .v (.int .i64 x.Request.Disk), .v (.int .i64 x.Limit.CPU), .v (.int .i64 x.Limit.Memory), .v (.int .i64 x.Limit.Disk), .sl (x.Live.map eProbe), .sl (x.Ready.map eProbe), .sl (x.Startup.map eProbe)]
structure Requirement where
  Key : ByteArray
  Op : Int
  Values : (List ByteArray)
  deriving DecidableEq
def okRequirement (x : Requirement) : Prop := okT x.Key ∧ okN x.Op ∧ (okL okT) x.Values ∧ True
def wRequirement (x : Requirement) : Nat := wS x.Key + (wN x.Op + ((wL wS) x.Values + 0)) + 1
def eRequirement (x : Requirement) : List D := [.v (.string x.Key), .v (.int .i64 x.Op), .sl (x.Values.map eS)]
structure NodeTerm where
  Required : Bool
  Selector : (List Requirement)
  Weight : Int
  deriving DecidableEq
def okNodeTerm (x : NodeTerm) : Prop := okT x.Required ∧ (okL okRequirement) x.Selector ∧ okN x.Weight ∧ True
def wNodeTerm (x : NodeTerm) : Nat := wN x.Required + ((wL wRequirement) x.Selector + (wN x.Weight + 0)) + 1
def eNodeTerm (x : NodeTerm) : List D := [.v (.bool x.Required), .sl (x.Selector.map eRequirement), .v (.int .i64 x.Weight)]
structure PodTerm where
  Required : Bool
  Anti : Bool
  Selector : (List Requirement)
  Topology : ByteArray
  Weight : Int
  deriving DecidableEq
def okPodTerm (x : PodTerm) : Prop := okT x.Required ∧ okT x.Anti ∧ (okL okRequirement) x.Selector ∧ okT x.Topology ∧ okN x.Weight ∧ True
def wPodTerm (x : PodTerm) : Nat := wN x.Required + (wN x.Anti + ((wL wRequirement) x.Selector + (wS x.Topology + (wN x.Weight + 0)))) + 1
def ePodTerm (x : PodTerm) : List D := [.v (.bool x.Required), .v (.bool x.Anti), .sl (x.Selector.map eRequirement), .v (.string x.Topology), .v (.int .i64 x.Weight)]
structure SpreadRule where
  MaxSkew : Int
  Topology : ByteArray
  Selector : (List Requirement)
  Required : Bool
  deriving DecidableEq
def okSpreadRule (x : SpreadRule) : Prop := okN x.MaxSkew ∧ okT x.Topology ∧ (okL okRequirement) x.Selector ∧ okT x.Required ∧ True
def wSpreadRule (x : SpreadRule) : Nat := wN x.MaxSkew + (wS x.Topology + ((wL wRequirement) x.Selector + (wN x.Required + 0))) + 1
def eSpreadRule (x : SpreadRule) : List D := [.v (.int .i64 x.MaxSkew), .v (.string x.Topology), .sl (x.Selector.map eRequirement), .v (.bool x.Required)]
structure Toleration where
  Key : ByteArray
  Value : ByteArray
  Exists : Bool
  Effect : Int
  Seconds : Int
  deriving DecidableEq
def okToleration (x : Toleration) : Prop := okT x.Key ∧ okT x.Value ∧ okT x.Exists ∧ okN x.Effect ∧ okN x.Seconds ∧ True
def wToleration (x : Toleration) : Nat := wS x.Key + (wS x.Value + (wN x.Exists + (wN x.Effect + (wN x.Seconds + 0)))) + 1
def eToleration (x : Toleration) : List D := [.v (.string x.Key), .v (.string x.Value), .v (.bool x.Exists), .v (.int .i64 x.Effect), .v (.int .i64 x.Seconds)]
structure PodSpec where
  Node : ByteArray
  Priority : Int
  Restart : Int
  Grace : Int
  Containers : (List Container)
  NodeSelector : (List Requirement)
  NodeTerms : (List NodeTerm)
  PodTerms : (List PodTerm)
  Spread : (List SpreadRule)
  Tolerations : (List Toleration)
  deriving DecidableEq
def okPodSpec (x : PodSpec) : Prop := okT x.Node ∧ okN x.Priority ∧ okN x.Restart ∧ okN x.Grace ∧ (okL okContainer) x.Containers ∧ (okL okRequirement) x.NodeSelector ∧ (okL okNodeTerm) x.NodeTerms ∧ (okL okPodTerm) x.PodTerms ∧ (okL okSpreadRule) x.Spread ∧ (okL okToleration) x.Tolerations ∧ True
def wPodSpec (x : PodSpec) : Nat := wS x.Node + (wN x.Priority + (wN x.Restart + (wN x.Grace + ((wL wContainer) x.Containers + ((wL wRequirement) x.NodeSelector + ((wL wNodeTerm) x.NodeTerms + ((wL wPodTerm) x.PodTerms + ((wL wSpreadRule) x.Spread + ((wL wToleration) x.Tolerations + 0))))))))) + 1
def ePodSpec (x : PodSpec) : List D := [.v (.string x.Node), .v (.int .i64 x.Priority), .v (.int .i64 x.Restart), .v (.int .i64 x.Grace), .sl (x.Containers.map eContainer), .sl (x.NodeSelector.map eRequirement), .sl (x.NodeTerms.map eNodeTerm), .sl (x.PodTerms.map ePodTerm), .sl (x.Spread.map eSpreadRule), .sl (x.Tolerations.map eToleration)]
structure ContainerStatus where
  Name : ByteArray
  State : Int
  Restarts : Int
  ExitCode : Int
  Since : Int
  Ready : Bool
  Started : Bool
  deriving DecidableEq
def okContainerStatus (x : ContainerStatus) : Prop := okT x.Name ∧ okN x.State ∧ okN x.Restarts ∧ okN x.ExitCode ∧ okN x.Since ∧ okT x.Ready ∧ okT x.Started ∧ True
def wContainerStatus (x : ContainerStatus) : Nat := wS x.Name + (wN x.State + (wN x.Restarts + (wN x.ExitCode + (wN x.Since + (wN x.Ready + (wN x.Started + 0)))))) + 1
def eContainerStatus (x : ContainerStatus) : List D := [.v (.string x.Name), .v (.int .i64 x.State), .v (.int .i64 x.Restarts), .v (.int .i64 x.ExitCode), .v (.int .i64 x.Since), .v (.bool x.Ready), .v (.bool x.Started)]
structure PodStatus where
  Phase : Int
  Ready : Bool
  ReadySince : Int
  Started : Int
  Finished : Int
  Containers : (List ContainerStatus)
  Address : Int
  Nominated : ByteArray
  Reason : ByteArray
  deriving DecidableEq
def okPodStatus (x : PodStatus) : Prop := okN x.Phase ∧ okT x.Ready ∧ okN x.ReadySince ∧ okN x.Started ∧ okN x.Finished ∧ (okL okContainerStatus) x.Containers ∧ okN x.Address ∧ okT x.Nominated ∧ okT x.Reason ∧ True
def wPodStatus (x : PodStatus) : Nat := wN x.Phase + (wN x.Ready + (wN x.ReadySince + (wN x.Started + (wN x.Finished + ((wL wContainerStatus) x.Containers + (wN x.Address + (wS x.Nominated + (wS x.Reason + 0)))))))) + 1
def ePodStatus (x : PodStatus) : List D := [.v (.int .i64 x.Phase), .v (.bool x.Ready), .v (.int .i64 x.ReadySince), .v (.int .i64 x.Started), .v (.int .i64 x.Finished), .sl (x.Containers.map eContainerStatus), .v (.int .i64 x.Address), .v (.string x.Nominated), .v (.string x.Reason)]
structure Pod where
  Meta : Meta
  Spec : PodSpec
  Status : PodStatus
  deriving DecidableEq
def okPod (x : Pod) : Prop := okMeta x.Meta ∧ okPodSpec x.Spec ∧ okPodStatus x.Status ∧ True
def wPod (x : Pod) : Nat := wMeta x.Meta + (wPodSpec x.Spec + (wPodStatus x.Status + 0)) + 1
def ePod (x : Pod) : List D := [.v (.string x.Meta.Kind), .v (.string x.Meta.Namespace), .v (.string x.Meta.Name), .v (.int .i64 x.Meta.Uid), .v (.int .i64 x.Meta.Version), .v (.int .i64 x.Meta.Generation), .v (.int .i64 x.Meta.Created), .v (.bool x.Meta.Deleting), .v (.int .i64 x.Meta.DeleteAt), .sl (x.Meta.Labels.map eLabel), .sl (x.Meta.Owners.map eOwner), .sl (x.Meta.Finalizers.map eS), .sl (x.Meta.Managers.map eManager), .v (.string x.Spec.Node), .v (.int .i64 x.Spec.Priority), .v (.int .i64 x.Spec.Restart), .v (.int .i64 x.Spec.Grace), .sl (x.Spec.Containers.map eContainer), .sl (x.Spec.NodeSelector.map eRequirement), .sl (x.Spec.NodeTerms.map eNodeTerm), .sl (x.Spec.PodTerms.map ePodTerm), .sl (x.Spec.Spread.map eSpreadRule), .sl (x.Spec.Tolerations.map eToleration), .v (.int .i64 x.Status.Phase), .v (.bool x.Status.Ready), .v (.int .i64 x.Status.ReadySince), .v (.int .i64 x.Status.Started), .v (.int .i64 x.Status.Finished), .sl (x.Status.Containers.map eContainerStatus), .v (.int .i64 x.Status.Address), .v (.string x.Status.Nominated), .v (.string x.Status.Reason)]
def EE := PLift.up (And.intro (And.intro (And.intro (And.intro @eI.eq_1 (And.intro @eB.eq_1 @eS.eq_1)) (And.intro @eK.eq_1 (And.intro @eL.eq_1 @eLabel.eq_1))) (And.intro (And.intro @eOwner.eq_1 (And.intro @eManager.eq_1 @eMeta.eq_1)) (And.intro @eResources.eq_1 (And.intro @eTaint.eq_1 @eImage.eq_1)))) (And.intro (And.intro (And.intro @eNode.eq_1 (And.intro @eProbe.eq_1 @eContainer.eq_1)) (And.intro @eRequirement.eq_1 (And.intro @eNodeTerm.eq_1 @ePodTerm.eq_1))) (And.intro (And.intro @eSpreadRule.eq_1 (And.intro @eToleration.eq_1 @ePodSpec.eq_1)) (And.intro @eContainerStatus.eq_1 (And.intro @ePodStatus.eq_1 @ePod.eq_1)))))
theorem eM {n m : Nat} {Q : XT → St → Prop} {R : St → Prop} {s' : St} {sl : List (Nat × AV)} {H' : List (Option Blk)} (σ : Src) (hR : R ⟨sl, H'⟩) (hB : shBs s'.heap σ H' σ H' := by simp only [ZZ.down, Nat.reduceEqDiff, reduceCtorEq, Nat.reduceAdd, Nat.reduceLeDiff, Nat.reduceLT, Nat.reduceBNe, EE.down]) (hk : keepS 0 (s'.heap.take m) σ H' := by simp only [ZZ.down, Nat.reduceEqDiff, reduceCtorEq, Nat.reduceAdd, Nat.reduceLeDiff, Nat.reduceLT, Nat.reduceBNe, EE.down]) (hs : shSl s'.heap σ H' s'.slots sl := by simp only [ZZ.down, Nat.reduceEqDiff, reduceCtorEq, Nat.reduceAdd, Nat.reduceLeDiff, Nat.reduceLT, Nat.reduceBNe, EE.down]) (hn : nodupS σ = true := by rfl) : sM n m R Q .normal s' := endM σ ⟨hB, hn, hk⟩ hs hR
theorem eL' {n m : Nat} {Q : XT → St → Prop} {I : Nat → St → Prop} {j : Nat} (k' : Nat) {s' : St} {sl : List (Nat × AV)} {H' : List (Option Blk)} (σ : Src) (hI : I k' ⟨sl, H'⟩) (hj : k' < j) (hB : shBs s'.heap σ H' σ H' := by simp only [ZZ.down, Nat.reduceEqDiff, reduceCtorEq, Nat.reduceAdd, Nat.reduceLeDiff, Nat.reduceLT, Nat.reduceBNe, EE.down]) (hk : keepS 0 (s'.heap.take m) σ H' := by simp only [ZZ.down, Nat.reduceEqDiff, reduceCtorEq, Nat.reduceAdd, Nat.reduceLeDiff, Nat.reduceLT, Nat.reduceBNe, EE.down]) (hs : shSl s'.heap σ H' s'.slots sl := by simp only [ZZ.down, Nat.reduceEqDiff, reduceCtorEq, Nat.reduceAdd, Nat.reduceLeDiff, Nat.reduceLT, Nat.reduceBNe, EE.down]) (hn : nodupS σ = true := by rfl) : sL n m I j Q .normal s' := endL k' hj σ ⟨hB, hn, hk⟩ hs hI
theorem bL {P : Program} {n m : Nat} {Q : XT → St → Prop} {s : St} {k : List Frm} {body : AC} (I : Nat → St → Prop) (k0 : Nat) {sl : List (Nat × AV)} {H' : List (Option Blk)} (σ : Src) (hI : I k0 ⟨sl, H'⟩) (hr : ∀ j s, I j s → sK P n m body [] (sL n m I j (sU P n m k Q)) s) (hB : shBs s.heap σ H' σ H' := by simp only [ZZ.down, Nat.reduceEqDiff, reduceCtorEq, Nat.reduceAdd, Nat.reduceLeDiff, Nat.reduceLT, Nat.reduceBNe, EE.down]) (hk : keepS 0 (s.heap.take m) σ H' := by simp only [ZZ.down, Nat.reduceEqDiff, reduceCtorEq, Nat.reduceAdd, Nat.reduceLeDiff, Nat.reduceLT, Nat.reduceBNe, EE.down]) (hs : shSl s.heap σ H' s.slots sl := by simp only [ZZ.down, Nat.reduceEqDiff, reduceCtorEq, Nat.reduceAdd, Nat.reduceLeDiff, Nat.reduceLT, Nat.reduceBNe, EE.down]) (hn : nodupS σ = true := by rfl) : WpC P n m (.loop body) (sU P n m k Q) s := begL I k0 σ ⟨hB, hn, hk⟩ hs hI hr
theorem eF {m : Nat} {h : List (Option Blk)} {l res : List A1} {H' : List (Option Blk)} (σ : Src) (hB : shBs h σ H' σ H' := by simp only [ZZ.down, Nat.reduceEqDiff, reduceCtorEq, Nat.reduceAdd, Nat.reduceLeDiff, Nat.reduceLT, Nat.reduceBNe, EE.down]) (hk : keepS 0 (h.take m) σ H' := by simp only [ZZ.down, Nat.reduceEqDiff, reduceCtorEq, Nat.reduceAdd, Nat.reduceLeDiff, Nat.reduceLT, Nat.reduceBNe, EE.down]) (hs : shAs h σ H' res l := by simp only [ZZ.down, Nat.reduceEqDiff, reduceCtorEq, Nat.reduceAdd, Nat.reduceLeDiff, Nat.reduceLT, Nat.reduceBNe, EE.down]) (hn : nodupS σ = true := by rfl) : Fin m h l res H' := fin_sh σ ⟨hB, hn, hk⟩ hs


/- orchestrator/orchestratorlaw54.small -/
def F11 (x0 : (List Node)) (x1 : (List Pod)) : Option (Bool) := (((if (x0.length : Int) ≤ 20 then some (decide ((x1.length : Int) ≤ 50)) else some false)).bind fun o1 => some o1)
def a11 : AFn := ⟨13, [(.tmp 4)],
 (.seq (.reg [⟨(some 4), none, .mv (kB false), [], (.new [])⟩])
 (.seq (.sem (.reg [⟨(some 5), none, .mv (.t 0), [], (.new [])⟩,
   ⟨(some 6), none, .len (.t 5), [], (.new [])⟩,
   ⟨(some 7), none, .bin .leq (.t 6) (kI 20), [], (.new [])⟩,
   ⟨(some 8), none, .mv (.t 7), [], (.new [])⟩,
   ⟨(some 9), (some (8, true)), .mv (.t 1), [], (.new [])⟩,
   ⟨(some 10), (some (8, true)), .len (.t 9), [], (.new [])⟩,
   ⟨(some 11), (some (8, true)), .bin .leq (.t 10) (kI 50), [], (.new [])⟩,
   ⟨(some 12), none, .pick (.t 8) (.t 11) (kB false), [], (.new [])⟩,
   ⟨(some 4), none, .mv (.t 12), [], (.new [])⟩]))
 .ret))⟩
theorem a11_ok : afn Try.prog 11 = some a11.er := by kernel_rfl
theorem F11_ok {x0 : (List Node)} {x1 : (List Pod)} {r : Bool} (h : F11 x0 x1 = some r) : CallD Try.prog 11 [.c (.d (.sl (x0.map eNode))), .c (.d (.sl (x1.map ePod)))] [] (tupV [.c (.d (.v (.bool r)))]) [] := by
  refine callS a11_ok (by simp [a11]) ?_
  rw [F11] at h
  simp only [a11, VW.down, Nat.reduceEqDiff, reduceCtorEq, Nat.reduceAdd, Nat.reduceLeDiff, Nat.reduceLT, Nat.reduceBEq, Nat.reduceSub, EE.down]
  obtain ⟨o1, ho, h⟩ := Option.bind_eq_some_iff.1 h
  refine cutS (fun s => s = ⟨[(4, .one (.c (.d (.v (.bool o1)))))], []⟩) ?_ ?_
  · have h := ho
    clear ho
    simp only [VW.down, Nat.reduceEqDiff, reduceCtorEq, Nat.reduceAdd, Nat.reduceLeDiff, Nat.reduceLT, Nat.reduceBEq, Nat.reduceSub, EE.down]
    refine guardS (fun g2 => ?_) (fun g2 => ?_)
    · have h := (if_pos g2).symm.trans h
      simp only [VW.down, Nat.reduceEqDiff, reduceCtorEq, Nat.reduceAdd, Nat.reduceLeDiff, Nat.reduceLT, Nat.reduceBEq, Nat.reduceSub, EE.down]
      obtain rfl := Option.some.inj h
      exact eM [] rfl
    · have h := (if_neg g2).symm.trans h
      simp only [VW.down, Nat.reduceEqDiff, reduceCtorEq, Nat.reduceAdd, Nat.reduceLeDiff, Nat.reduceLT, Nat.reduceBEq, Nat.reduceSub, EE.down]
      obtain rfl := Option.some.inj h
      exact eM [] rfl
  · rintro _ rfl
    clear ho
    simp only [VW.down, Nat.reduceEqDiff, reduceCtorEq, Nat.reduceAdd, Nat.reduceLeDiff, Nat.reduceLT, Nat.reduceBEq, Nat.reduceSub, EE.down]
    obtain rfl := Option.some.inj h
    exact eF []

/- slices.Clone[[]orchestrator/api.Label,orchestrator/api.Label] -/
theorem a46_ok : afn Try.prog 46 = some (cloneA 2 32) := by kernel_rfl
theorem F46_ok {x0 r : List Label} (h : cloneI x0 = some r) : CallD Try.prog 46 [.c (.d (.sl (x0.map eLabel)))] [] (tupV [.c (.own 0 1 0 r.length none)]) [some (.arr 1 2 (r.map eLabel))] := L_clone a46_ok (fun _ => rfl) h

/- slices.Clone[[]orchestrator/api.Owner,orchestrator/api.Owner] -/
theorem a47_ok : afn Try.prog 47 = some (cloneA 5 48) := by kernel_rfl
theorem F47_ok {x0 r : List Owner} (h : cloneI x0 = some r) : CallD Try.prog 47 [.c (.d (.sl (x0.map eOwner)))] [] (tupV [.c (.own 0 1 0 r.length none)]) [some (.arr 1 5 (r.map eOwner))] := L_clone a47_ok (fun _ => rfl) h

/- slices.Clone[[]string,string] -/
theorem a48_ok : afn Try.prog 48 = some (cloneA 1 16) := by kernel_rfl
theorem F48_ok {x0 r : List ByteArray} (h : cloneI x0 = some r) : CallD Try.prog 48 [.c (.d (.sl (x0.map eS)))] [] (tupV [.c (.own 0 1 0 r.length none)]) [some (.arr 1 1 (r.map eS))] := L_clone a48_ok (fun _ => rfl) h

/- slices.Clone[[]orchestrator/api.Manager,orchestrator/api.Manager] -/
theorem a49_ok : afn Try.prog 49 = some (cloneA 2 40) := by kernel_rfl
theorem F49_ok {x0 r : List Manager} (h : cloneI x0 = some r) : CallD Try.prog 49 [.c (.d (.sl (x0.map eManager)))] [] (tupV [.c (.own 0 1 0 r.length none)]) [some (.arr 1 2 (r.map eManager))] := L_clone a49_ok (fun _ => rfl) h

/- slices.Clone[[]orchestrator/api.Taint,orchestrator/api.Taint] -/
theorem a50_ok : afn Try.prog 50 = some (cloneA 4 48) := by kernel_rfl
theorem F50_ok {x0 r : List Taint} (h : cloneI x0 = some r) : CallD Try.prog 50 [.c (.d (.sl (x0.map eTaint)))] [] (tupV [.c (.own 0 1 0 r.length none)]) [some (.arr 1 4 (r.map eTaint))] := L_clone a50_ok (fun _ => rfl) h

/- slices.Clone[[]orchestrator/api.Image,orchestrator/api.Image] -/
theorem a51_ok : afn Try.prog 51 = some (cloneA 3 32) := by kernel_rfl
theorem F51_ok {x0 r : List Image} (h : cloneI x0 = some r) : CallD Try.prog 51 [.c (.d (.sl (x0.map eImage)))] [] (tupV [.c (.own 0 1 0 r.length none)]) [some (.arr 1 3 (r.map eImage))] := L_clone a51_ok (fun _ => rfl) h

/- orchestrator/nodelife.clone -/
def F22_l5  : List Manager → Nat → (List Manager) → Option ((List Manager))
  | [], o5_1, o5_0 => some o5_0
  | xo5 :: xs, o5_1, o5_0 => (rdI o5_0 ((o5_1 : Int))).bind fun y7 => (cloneI y7.Fields).bind fun t8 => (rdI o5_0 ((o5_1 : Int))).bind fun y9 => F22_l5  xs (o5_1 + 1) ((o5_0.set ((o5_1 : Int)).toNat ((⟨y9.Name, t8⟩ : Manager))))
def F22 (x0 : Node) : Option ((List Label) × (List Owner) × (List ByteArray) × (List Manager) × (List Taint) × (List Image)) := (cloneI x0.Meta.Labels).bind fun t1 => (cloneI x0.Meta.Owners).bind fun t2 => (cloneI x0.Meta.Finalizers).bind fun t3 => (cloneI x0.Meta.Managers).bind fun t4 => (((ck (0 ≤ t4.length ∧ t4.length ≤ 4294967290)).bind fun u10 => F22_l5 t4 0 t4).bind fun o5 => (cloneI x0.Taints).bind fun t11 => (cloneI x0.Images).bind fun t12 => some ((t1, t2, t3, o5, t11, t12)))
def a22 : AFn := ⟨72, [(.cell 2 (some 24))],
 (.seq (.reg [⟨(some 1), none, .box (.t 0), [], (.new [])⟩,
   ⟨(some 2), none, .zbox [.d (.v (.string ⟨#[]⟩)), .d (.v (.string ⟨#[]⟩)), .d (.v (.string ⟨#[]⟩)), .d (.v (.int .i64 0)), .d (.v (.int .i64 0)), .d (.v (.int .i64 0)), .d (.v (.int .i64 0)), .d (.v (.bool false)), .d (.v (.int .i64 0)), .d (.v (.slice none 0 0)), .d (.v (.slice none 0 0)), .d (.v (.slice none 0 0)), .d (.v (.slice none 0 0)), .d (.v (.int .i64 0)), .d (.v (.int .i64 0)), .d (.v (.int .i64 0)), .d (.v (.int .i64 0)), .d (.v (.bool false)), .d (.v (.slice none 0 0)), .d (.v (.bool false)), .d (.v (.int .i64 0)), .d (.v (.bool false)), .d (.v (.bool false)), .d (.v (.slice none 0 0))], [], (.new [])⟩])
 (.seq (.reg [⟨(some 5), none, .fieldA 0 (.t 1), [], (.new [])⟩,
   ⟨(some 3), none, .mv (.t 5), [], (.new [])⟩])
 (.seq (.regd [⟨(some 6), none, .mv (.t 3), [], (.new [])⟩,
   ⟨(some 7), none, .mv (.t 3), [], (.new [])⟩,
   ⟨(some 8), none, .mv (.t 3), [], (.new [])⟩,
   ⟨(some 9), none, .mv (.t 3), [], (.new [])⟩,
   ⟨(some 10), none, .mv (.t 3), [], (.new [])⟩,
   ⟨(some 11), none, .fieldA 0 (.t 10), [4], (.new [])⟩,
   ⟨(some 12), none, .fieldA 9 (.t 11), [4, 5], (.new [])⟩,
   ⟨(some 13), none, .load none (.t 12), [4, 5, 6], (.new [])⟩,
   ⟨(some 14), none, .call 46 [(.t 13)], [4, 5, 6, 7], (.new [4, 5, 6, 7])⟩,
   ⟨(some 15), none, .mv (.t 3), [], (.new [])⟩,
   ⟨(some 16), none, .fieldA 0 (.t 15), [9], (.new [])⟩,
   ⟨(some 17), none, .fieldA 10 (.t 16), [9, 10], (.new [])⟩,
   ⟨(some 18), none, .load none (.t 17), [9, 10, 11], (.new [])⟩,
   ⟨(some 19), none, .call 47 [(.t 18)], [4, 5, 6, 7, 8, 9, 10, 11, 12], (.new [4, 5, 6, 7, 8, 9, 10, 11, 12])⟩,
   ⟨(some 20), none, .mv (.t 3), [], (.new [])⟩,
   ⟨(some 21), none, .fieldA 0 (.t 20), [14], (.new [])⟩,
   ⟨(some 22), none, .fieldA 11 (.t 21), [14, 15], (.new [])⟩,
   ⟨(some 23), none, .load none (.t 22), [14, 15, 16], (.new [])⟩,
   ⟨(some 24), none, .call 48 [(.t 23)], [4, 5, 6, 7, 8, 9, 10, 11, 12, 13, 14, 15, 16, 17], (.new [4, 5, 6, 7, 8, 9, 10, 11, 12, 13, 14, 15, 16, 17])⟩,
   ⟨(some 25), none, .mv (.t 3), [], (.new [])⟩,
   ⟨(some 26), none, .fieldA 0 (.t 25), [19], (.new [])⟩,
   ⟨(some 27), none, .fieldA 12 (.t 26), [19, 20], (.new [])⟩,
   ⟨(some 28), none, .load none (.t 27), [19, 20, 21], (.new [])⟩,
   ⟨(some 29), none, .call 49 [(.t 28)], [4, 5, 6, 7, 8, 9, 10, 11, 12, 13, 14, 15, 16, 17, 18, 19, 20, 21, 22], (.lone [])⟩,
   ⟨(some 30), none, .fieldA 0 (.t 6), [0, 4, 5, 6, 7, 8, 9, 10, 11, 12, 13, 14, 15, 16, 17, 18, 19, 20, 21, 22, 23], (.new [])⟩,
   ⟨(some 31), none, .fieldA 9 (.t 30), [0, 4, 5, 6, 7, 8, 9, 10, 11, 12, 13, 14, 15, 16, 17, 18, 19, 20, 21, 22, 23, 24], (.new [])⟩,
   ⟨none, none, .store 1 (.t 31) (.t 14), [0, 4, 5, 6, 7, 8, 9, 10, 11, 12, 13, 14, 15, 16, 17, 18, 19, 20, 21, 22, 23, 24, 25], (.lone [])⟩,
   ⟨(some 32), none, .fieldA 0 (.t 7), [0, 1, 4, 5, 6, 7, 8, 9, 10, 11, 12, 13, 14, 15, 16, 17, 18, 19, 20, 21, 22, 23, 24, 25, 26], (.new [])⟩,
   ⟨(some 33), none, .fieldA 10 (.t 32), [0, 1, 4, 5, 6, 7, 8, 9, 10, 11, 12, 13, 14, 15, 16, 17, 18, 19, 20, 21, 22, 23, 24, 25, 26, 27], (.new [])⟩,
   ⟨none, none, .store 1 (.t 33) (.t 19), [0, 1, 4, 5, 6, 7, 8, 9, 10, 11, 12, 13, 14, 15, 16, 17, 18, 19, 20, 21, 22, 23, 24, 25, 26, 27, 28], (.lone [])⟩,
   ⟨(some 34), none, .fieldA 0 (.t 8), [0, 1, 2, 4, 5, 6, 7, 8, 9, 10, 11, 12, 13, 14, 15, 16, 17, 18, 19, 20, 21, 22, 23, 24, 25, 26, 27, 28, 29], (.new [])⟩,
   ⟨(some 35), none, .fieldA 11 (.t 34), [0, 1, 2, 4, 5, 6, 7, 8, 9, 10, 11, 12, 13, 14, 15, 16, 17, 18, 19, 20, 21, 22, 23, 24, 25, 26, 27, 28, 29, 30], (.new [])⟩,
   ⟨none, none, .store 1 (.t 35) (.t 24), [0, 1, 2, 4, 5, 6, 7, 8, 9, 10, 11, 12, 13, 14, 15, 16, 17, 18, 19, 20, 21, 22, 23, 24, 25, 26, 27, 28, 29, 30, 31], (.lone [])⟩,
   ⟨(some 36), none, .fieldA 0 (.t 9), [0, 1, 2, 3, 4, 5, 6, 7, 8, 9, 10, 11, 12, 13, 14, 15, 16, 17, 18, 19, 20, 21, 22, 23, 24, 25, 26, 27, 28, 29, 30, 31, 32], (.new [])⟩,
   ⟨(some 37), none, .fieldA 12 (.t 36), [0, 1, 2, 3, 4, 5, 6, 7, 8, 9, 10, 11, 12, 13, 14, 15, 16, 17, 18, 19, 20, 21, 22, 23, 24, 25, 26, 27, 28, 29, 30, 31, 32, 33], (.new [])⟩,
   ⟨none, none, .store 1 (.t 37) (.t 29), [0, 1, 2, 3, 4, 5, 6, 7, 8, 9, 10, 11, 12, 13, 14, 15, 16, 17, 18, 19, 20, 21, 22, 23, 24, 25, 26, 27, 28, 29, 30, 31, 32, 33, 34], (.lone [])⟩])
 (.seq (.seq (.reg [⟨(some 38), none, .mv (.t 3), [], (.new [])⟩,
   ⟨(some 39), none, .fieldA 0 (.t 38), [], (.new [])⟩,
   ⟨(some 40), none, .fieldA 12 (.t 39), [], (.new [])⟩,
   ⟨(some 41), none, .load none (.t 40), [], (.new [])⟩,
   ⟨(some 42), none, .len (.t 41), [], (.new [])⟩,
   ⟨(some 43), none, .mv (kI 0), [], (.new [])⟩])
 (.sem (.block 0 (.loop (.seq (.reg [⟨(some 44), none, .bin .lss (.t 43) (.t 42), [], (.new [])⟩])
 (.seq (.cond (.t 44)
 .skip
 (.exit 0))
 (.seq (.block 1 (.seq (.reg [⟨(some 45), none, .mv (.t 43), [], (.new [])⟩,
   ⟨(some 4), none, .mv (.t 45), [], (.new [])⟩])
 (.regd [⟨(some 46), none, .mv (.t 3), [], (.new [])⟩,
   ⟨(some 47), none, .fieldA 0 (.t 46), [0], (.new [])⟩,
   ⟨(some 48), none, .fieldA 12 (.t 47), [0, 1], (.new [])⟩,
   ⟨(some 49), none, .load none (.t 48), [0, 1, 2], (.new [])⟩,
   ⟨(some 50), none, .mv (.t 4), [], (.new [])⟩,
   ⟨(some 51), none, .mv (.t 3), [], (.new [])⟩,
   ⟨(some 52), none, .fieldA 0 (.t 51), [5], (.new [])⟩,
   ⟨(some 53), none, .fieldA 12 (.t 52), [5, 6], (.new [])⟩,
   ⟨(some 54), none, .load none (.t 53), [5, 6, 7], (.new [])⟩,
   ⟨(some 55), none, .mv (.t 4), [], (.new [])⟩,
   ⟨(some 56), none, .indexA 2 (.t 54) (.t 55), [5, 6, 7, 8, 9], (.new [])⟩,
   ⟨(some 57), none, .fieldA 1 (.t 56), [5, 6, 7, 8, 9, 10], (.new [])⟩,
   ⟨(some 58), none, .load none (.t 57), [5, 6, 7, 8, 9, 10, 11], (.new [])⟩,
   ⟨(some 59), none, .call 48 [(.t 58)], [5, 6, 7, 8, 9, 10, 11, 12], (.lone [46, 47, 48])⟩,
   ⟨(some 60), none, .indexA 2 (.t 49) (.t 50), [0, 1, 2, 3, 4, 5, 6, 7, 8, 9, 10, 11, 12, 13], (.new [])⟩,
   ⟨(some 61), none, .fieldA 1 (.t 60), [0, 1, 2, 3, 4, 5, 6, 7, 8, 9, 10, 11, 12, 13, 14], (.new [])⟩,
   ⟨none, none, .store 1 (.t 61) (.t 59), [0, 1, 2, 3, 4, 5, 6, 7, 8, 9, 10, 11, 12, 13, 14, 15], (.lone [])⟩])))
 (.reg [⟨(some 62), none, .bin .add (.t 43) (kI 1), [], (.new [])⟩,
   ⟨(some 43), none, .mv (.t 62), [], (.new [])⟩]))))))))
 (.seq (.regd [⟨(some 63), none, .fieldA 18 (.t 1), [], (.new [])⟩,
   ⟨(some 64), none, .load none (.t 63), [0], (.new [])⟩,
   ⟨(some 65), none, .call 50 [(.t 64)], [0, 1], (.new [0, 1])⟩,
   ⟨(some 66), none, .fieldA 23 (.t 1), [], (.new [])⟩,
   ⟨(some 67), none, .load none (.t 66), [3], (.new [])⟩,
   ⟨(some 68), none, .call 51 [(.t 67)], [0, 1, 2, 3, 4], (.lone [])⟩,
   ⟨(some 69), none, .fieldA 18 (.t 1), [0, 1, 2, 3, 4, 5], (.new [])⟩,
   ⟨none, none, .store 1 (.t 69) (.t 65), [0, 1, 2, 3, 4, 5, 6], (.lone [])⟩,
   ⟨(some 70), none, .fieldA 23 (.t 1), [0, 1, 2, 3, 4, 5, 6, 7], (.new [])⟩,
   ⟨none, none, .store 1 (.t 70) (.t 68), [0, 1, 2, 3, 4, 5, 6, 7, 8], (.lone [])⟩])
 (.seq (.reg [⟨(some 71), none, .load (some 24) (.t 1), [], (.new [])⟩,
   ⟨none, none, .store 24 (.t 2) (.t 71), [], (.lone [1])⟩])
 .ret))))))⟩
theorem a22_ok : afn Try.prog 22 = some a22.er := by kernel_rfl
theorem F22_ok {x0 : Node} {r : (List Label) × (List Owner) × (List ByteArray) × (List Manager) × (List Taint) × (List Image)} (h : F22 x0 = some r) : CallD Try.prog 22 [.agg [.d (.v (.string x0.Meta.Kind)), .d (.v (.string x0.Meta.Namespace)), .d (.v (.string x0.Meta.Name)), .d (.v (.int .i64 x0.Meta.Uid)), .d (.v (.int .i64 x0.Meta.Version)), .d (.v (.int .i64 x0.Meta.Generation)), .d (.v (.int .i64 x0.Meta.Created)), .d (.v (.bool x0.Meta.Deleting)), .d (.v (.int .i64 x0.Meta.DeleteAt)), .d (.sl (x0.Meta.Labels.map eLabel)), .d (.sl (x0.Meta.Owners.map eOwner)), .d (.sl (x0.Meta.Finalizers.map eS)), .d (.sl (x0.Meta.Managers.map eManager)), .d (.v (.int .i64 x0.Capacity.CPU)), .d (.v (.int .i64 x0.Capacity.Memory)), .d (.v (.int .i64 x0.Capacity.Disk)), .d (.v (.int .i64 x0.MaxPods)), .d (.v (.bool x0.Cordoned)), .d (.sl (x0.Taints.map eTaint)), .d (.v (.bool x0.Ready)), .d (.v (.int .i64 x0.Beat)), .d (.v (.bool x0.LowMem)), .d (.v (.bool x0.LowDisk)), .d (.sl (x0.Images.map eImage))]] [] (tupV [.agg [.d (.v (.string x0.Meta.Kind)), .d (.v (.string x0.Meta.Namespace)), .d (.v (.string x0.Meta.Name)), .d (.v (.int .i64 x0.Meta.Uid)), .d (.v (.int .i64 x0.Meta.Version)), .d (.v (.int .i64 x0.Meta.Generation)), .d (.v (.int .i64 x0.Meta.Created)), .d (.v (.bool x0.Meta.Deleting)), .d (.v (.int .i64 x0.Meta.DeleteAt)), .own 0 0 0 (r.1.length) none, .own 1 0 0 (r.2.1.length) none, .own 2 0 0 (r.2.2.1.length) none, .own 3 0 0 (r.2.2.2.1.length) none, .d (.v (.int .i64 x0.Capacity.CPU)), .d (.v (.int .i64 x0.Capacity.Memory)), .d (.v (.int .i64 x0.Capacity.Disk)), .d (.v (.int .i64 x0.MaxPods)), .d (.v (.bool x0.Cordoned)), .own 4 0 0 (r.2.2.2.2.1.length) none, .d (.v (.bool x0.Ready)), .d (.v (.int .i64 x0.Beat)), .d (.v (.bool x0.LowMem)), .d (.v (.bool x0.LowDisk)), .own 5 0 0 (r.2.2.2.2.2.length) none]]) [some (.arr 0 2 (r.1.map eLabel)), some (.arr 0 5 (r.2.1.map eOwner)), some (.arr 0 1 (r.2.2.1.map eS)), some (.arr 0 2 (r.2.2.2.1.map eManager)), some (.arr 0 4 (r.2.2.2.2.1.map eTaint)), some (.arr 0 3 (r.2.2.2.2.2.map eImage))] := by
  refine callS a22_ok (by simp [a22]) ?_
  rw [F22] at h
  simp only [a22, VW.down, Nat.reduceEqDiff, reduceCtorEq, Nat.reduceAdd, Nat.reduceLeDiff, Nat.reduceLT, Nat.reduceBEq, Nat.reduceSub, EE.down]
  obtain ⟨t1, ht1, h⟩ := Option.bind_eq_some_iff.1 h
  refine callX_n [] (F46_ok ht1) ?_ ?_ ?_ ?_ ?_ ?_
  · first | rfl | simp [nrmA, nrmC, nrm, A1.ren, C.ren, rn, List.length_set]
  · simp [liveAll, A1.live, C.live]
  · rfl
  · decide
  · exact trivial
  simp only [VW.down, Nat.reduceEqDiff, reduceCtorEq, Nat.reduceAdd, Nat.reduceLeDiff, Nat.reduceLT, Nat.reduceBEq, Nat.reduceSub, EE.down]
  refine kD_new (by simp [wrs, allW, hset]) ?_
  simp only [VW.down, Nat.reduceEqDiff, reduceCtorEq, Nat.reduceAdd, Nat.reduceLeDiff, Nat.reduceLT, Nat.reduceBEq, Nat.reduceSub, EE.down]
  obtain ⟨t2, ht2, h⟩ := Option.bind_eq_some_iff.1 h
  refine callX_n [] (F47_ok ht2) ?_ ?_ ?_ ?_ ?_ ?_
  · first | rfl | simp [nrmA, nrmC, nrm, A1.ren, C.ren, rn, List.length_set]
  · simp [liveAll, A1.live, C.live]
  · rfl
  · decide
  · exact trivial
  simp only [VW.down, Nat.reduceEqDiff, reduceCtorEq, Nat.reduceAdd, Nat.reduceLeDiff, Nat.reduceLT, Nat.reduceBEq, Nat.reduceSub, EE.down]
  refine kD_new (by simp [wrs, allW, hset]) ?_
  simp only [VW.down, Nat.reduceEqDiff, reduceCtorEq, Nat.reduceAdd, Nat.reduceLeDiff, Nat.reduceLT, Nat.reduceBEq, Nat.reduceSub, EE.down]
  obtain ⟨t3, ht3, h⟩ := Option.bind_eq_some_iff.1 h
  refine callX_n [] (F48_ok ht3) ?_ ?_ ?_ ?_ ?_ ?_
  · first | rfl | simp [nrmA, nrmC, nrm, A1.ren, C.ren, rn, List.length_set]
  · simp [liveAll, A1.live, C.live]
  · rfl
  · decide
  · exact trivial
  simp only [VW.down, Nat.reduceEqDiff, reduceCtorEq, Nat.reduceAdd, Nat.reduceLeDiff, Nat.reduceLT, Nat.reduceBEq, Nat.reduceSub, EE.down]
  refine kD_new (by simp [wrs, allW, hset]) ?_
  simp only [VW.down, Nat.reduceEqDiff, reduceCtorEq, Nat.reduceAdd, Nat.reduceLeDiff, Nat.reduceLT, Nat.reduceBEq, Nat.reduceSub, EE.down]
  obtain ⟨t4, ht4, h⟩ := Option.bind_eq_some_iff.1 h
  refine callX_n [] (F49_ok ht4) ?_ ?_ ?_ ?_ ?_ ?_
  · first | rfl | simp [nrmA, nrmC, nrm, A1.ren, C.ren, rn, List.length_set]
  · simp [liveAll, A1.live, C.live]
  · rfl
  · decide
  · exact trivial
  simp only [VW.down, Nat.reduceEqDiff, reduceCtorEq, Nat.reduceAdd, Nat.reduceLeDiff, Nat.reduceLT, Nat.reduceBEq, Nat.reduceSub, EE.down]
  obtain ⟨o5, ho, h⟩ := Option.bind_eq_some_iff.1 h
  refine cutS (fun s => s = ⟨[(1, .one (.c (.pt 0 0))), (2, .one (.c (.pt 5 0)))], [some (.box [.d (.v (.string x0.Meta.Kind)), .d (.v (.string x0.Meta.Namespace)), .d (.v (.string x0.Meta.Name)), .d (.v (.int .i64 x0.Meta.Uid)), .d (.v (.int .i64 x0.Meta.Version)), .d (.v (.int .i64 x0.Meta.Generation)), .d (.v (.int .i64 x0.Meta.Created)), .d (.v (.bool x0.Meta.Deleting)), .d (.v (.int .i64 x0.Meta.DeleteAt)), .own 1 0 0 (t1.length) none, .own 2 0 0 (t2.length) none, .own 3 0 0 (t3.length) none, .own 4 0 0 (o5.length) none, .d (.v (.int .i64 x0.Capacity.CPU)), .d (.v (.int .i64 x0.Capacity.Memory)), .d (.v (.int .i64 x0.Capacity.Disk)), .d (.v (.int .i64 x0.MaxPods)), .d (.v (.bool x0.Cordoned)), .d (.sl (x0.Taints.map eTaint)), .d (.v (.bool x0.Ready)), .d (.v (.int .i64 x0.Beat)), .d (.v (.bool x0.LowMem)), .d (.v (.bool x0.LowDisk)), .d (.sl (x0.Images.map eImage))]), some (.arr 0 2 (t1.map eLabel)), some (.arr 0 5 (t2.map eOwner)), some (.arr 0 1 (t3.map eS)), some (.arr 0 2 (o5.map eManager)), some (.box [.d (.v (.string ((⟨#[]⟩ : ByteArray)))), .d (.v (.string ((⟨#[]⟩ : ByteArray)))), .d (.v (.string ((⟨#[]⟩ : ByteArray)))), .d (.v (.int .i64 0)), .d (.v (.int .i64 0)), .d (.v (.int .i64 0)), .d (.v (.int .i64 0)), .d (.v (.bool false)), .d (.v (.int .i64 0)), .d (.v (.slice none 0 0)), .d (.v (.slice none 0 0)), .d (.v (.slice none 0 0)), .d (.v (.slice none 0 0)), .d (.v (.int .i64 0)), .d (.v (.int .i64 0)), .d (.v (.int .i64 0)), .d (.v (.int .i64 0)), .d (.v (.bool false)), .d (.v (.slice none 0 0)), .d (.v (.bool false)), .d (.v (.int .i64 0)), .d (.v (.bool false)), .d (.v (.bool false)), .d (.v (.slice none 0 0))])]⟩) ?_ ?_
  · have h := ho
    clear ho
    obtain ⟨_, hk, h⟩ := Option.bind_eq_some_iff.1 h
    have hk := ck_some hk
    simp only [VW.down, Nat.reduceEqDiff, reduceCtorEq, Nat.reduceAdd, Nat.reduceLeDiff, Nat.reduceLT, Nat.reduceBEq, Nat.reduceSub, EE.down]
    refine bL (fun j s => ∃ (o5_1 : Nat) (o5_0 : List Manager), (o5_1 ≤ t4.length ∧ j = t4.length - o5_1) ∧ s = ⟨[(1, .one (.c (.pt 0 0))), (2, .one (.c (.pt 5 0))), (3, .one (.c (.pt 0 0))), (42, .one (.c (.d (.v (.int .i64 ((t4.length : Int))))))), (43, .one (.c (.d (.v (.int .i64 ((o5_1 : Int)))))))], [some (.box [.d (.v (.string x0.Meta.Kind)), .d (.v (.string x0.Meta.Namespace)), .d (.v (.string x0.Meta.Name)), .d (.v (.int .i64 x0.Meta.Uid)), .d (.v (.int .i64 x0.Meta.Version)), .d (.v (.int .i64 x0.Meta.Generation)), .d (.v (.int .i64 x0.Meta.Created)), .d (.v (.bool x0.Meta.Deleting)), .d (.v (.int .i64 x0.Meta.DeleteAt)), .own 1 0 0 (t1.length) none, .own 2 0 0 (t2.length) none, .own 3 0 0 (t3.length) none, .own 4 0 0 (o5_0.length) none, .d (.v (.int .i64 x0.Capacity.CPU)), .d (.v (.int .i64 x0.Capacity.Memory)), .d (.v (.int .i64 x0.Capacity.Disk)), .d (.v (.int .i64 x0.MaxPods)), .d (.v (.bool x0.Cordoned)), .d (.sl (x0.Taints.map eTaint)), .d (.v (.bool x0.Ready)), .d (.v (.int .i64 x0.Beat)), .d (.v (.bool x0.LowMem)), .d (.v (.bool x0.LowDisk)), .d (.sl (x0.Images.map eImage))]), some (.arr 0 2 (t1.map eLabel)), some (.arr 0 5 (t2.map eOwner)), some (.arr 0 1 (t3.map eS)), some (.arr 0 2 (o5_0.map eManager)), some (.box [.d (.v (.string ((⟨#[]⟩ : ByteArray)))), .d (.v (.string ((⟨#[]⟩ : ByteArray)))), .d (.v (.string ((⟨#[]⟩ : ByteArray)))), .d (.v (.int .i64 0)), .d (.v (.int .i64 0)), .d (.v (.int .i64 0)), .d (.v (.int .i64 0)), .d (.v (.bool false)), .d (.v (.int .i64 0)), .d (.v (.slice none 0 0)), .d (.v (.slice none 0 0)), .d (.v (.slice none 0 0)), .d (.v (.slice none 0 0)), .d (.v (.int .i64 0)), .d (.v (.int .i64 0)), .d (.v (.int .i64 0)), .d (.v (.int .i64 0)), .d (.v (.bool false)), .d (.v (.slice none 0 0)), .d (.v (.bool false)), .d (.v (.int .i64 0)), .d (.v (.bool false)), .d (.v (.bool false)), .d (.v (.slice none 0 0))])]⟩ ∧ F22_l5 (t4.drop o5_1) o5_1 o5_0 = some o5) (t4.length - 0) [some 0, some 2, some 3, some 4, some 5, some 1] ⟨0, t4, ⟨hk.1, rfl⟩, rfl, h⟩ ?_
    rintro _ _ ⟨o5_1, o5_0, ⟨hi, rfl⟩, rfl, h⟩
    simp only [VW.down, Nat.reduceEqDiff, reduceCtorEq, Nat.reduceAdd, Nat.reduceLeDiff, Nat.reduceLT, Nat.reduceBEq, Nat.reduceSub, EE.down]
    refine condS (fun c6 => ?_) (fun c6 => ?_)
    · obtain ⟨xo5, hxo5, hd⟩ := countY (show (o5_1 : Int) < (t4.length : Int) from c6)
      rw [hd, F22_l5] at h
      simp only [VW.down, Nat.reduceEqDiff, reduceCtorEq, Nat.reduceAdd, Nat.reduceLeDiff, Nat.reduceLT, Nat.reduceBEq, Nat.reduceSub, EE.down]
      obtain ⟨y7, hy7, h⟩ := Option.bind_eq_some_iff.1 h
      refine t_idxO (enc := eManager) (xs := o5_0) rfl rfl rfl (by first | rfl | simp only [List.length_set] | exact (clrL_len (slI_len (by assumption))).symm) hy7 ?_
      simp only [VW.down, Nat.reduceEqDiff, reduceCtorEq, Nat.reduceAdd, Nat.reduceLeDiff, Nat.reduceLT, Nat.reduceBEq, Nat.reduceSub, EE.down]
      refine LdRow.rd (rdI_some hy7).2.1 ?_
      simp only [VW.down, Nat.reduceEqDiff, reduceCtorEq, Nat.reduceAdd, Nat.reduceLeDiff, Nat.reduceLT, Nat.reduceBEq, Nat.reduceSub, EE.down]
      obtain ⟨t8, ht8, h⟩ := Option.bind_eq_some_iff.1 h
      refine callX_n [] (F48_ok ht8) ?_ ?_ ?_ ?_ ?_ ?_
      · first | rfl | simp [nrmA, nrmC, nrm, A1.ren, C.ren, rn, List.length_set]
      · simp [liveAll, A1.live, C.live]
      · rfl
      · decide
      · exact trivial
      simp only [VW.down, Nat.reduceEqDiff, reduceCtorEq, Nat.reduceAdd, Nat.reduceLeDiff, Nat.reduceLT, Nat.reduceBEq, Nat.reduceSub, EE.down]
      obtain ⟨y9, hy9, h⟩ := Option.bind_eq_some_iff.1 h
      refine t_idxO (enc := eManager) (xs := o5_0) rfl rfl rfl (by first | rfl | simp only [List.length_set] | exact (clrL_len (slI_len (by assumption))).symm) hy9 ?_
      simp only [VW.down, Nat.reduceEqDiff, reduceCtorEq, Nat.reduceAdd, Nat.reduceLeDiff, Nat.reduceLT, Nat.reduceBEq, Nat.reduceSub, EE.down]
      refine StRow.rd (y' := (⟨y9.Name, t8⟩ : Manager)) (rdI_some hy9).2.1 (by simp [EE.down]) (by first | rfl | (simp only [bor_full']; rfl)) ?_
      simp only [VW.down, Nat.reduceEqDiff, reduceCtorEq, Nat.reduceAdd, Nat.reduceLeDiff, Nat.reduceLT, Nat.reduceBEq, Nat.reduceSub, EE.down]
      rw [wrapN (by omega)]
      exact eL' (t4.length - (o5_1 + 1)) [some 0, some 1, some 2, some 3, some 4, some 5] ⟨o5_1 + 1, (o5_0.set ((o5_1 : Int)).toNat ((⟨y9.Name, t8⟩ : Manager))), ⟨by omega, rfl⟩, rfl, h⟩ (by omega)
    · rw [countN (show ¬ ((o5_1 : Int) < (t4.length : Int)) from c6), F22_l5] at h
      simp only [VW.down, Nat.reduceEqDiff, reduceCtorEq, Nat.reduceAdd, Nat.reduceLeDiff, Nat.reduceLT, Nat.reduceBEq, Nat.reduceSub, EE.down]
      obtain rfl := Option.some.inj h
      exact eM [some 0, some 1, some 2, some 3, some 4, some 5] rfl
  · rintro _ rfl
    clear ho
    simp only [VW.down, Nat.reduceEqDiff, reduceCtorEq, Nat.reduceAdd, Nat.reduceLeDiff, Nat.reduceLT, Nat.reduceBEq, Nat.reduceSub, EE.down]
    obtain ⟨t11, ht11, h⟩ := Option.bind_eq_some_iff.1 h
    refine callX_n [] (F50_ok ht11) ?_ ?_ ?_ ?_ ?_ ?_
    · first | rfl | simp [nrmA, nrmC, nrm, A1.ren, C.ren, rn, List.length_set]
    · simp [liveAll, A1.live, C.live]
    · rfl
    · decide
    · exact trivial
    simp only [VW.down, Nat.reduceEqDiff, reduceCtorEq, Nat.reduceAdd, Nat.reduceLeDiff, Nat.reduceLT, Nat.reduceBEq, Nat.reduceSub, EE.down]
    refine kD_new (by simp [wrs, allW, hset]) ?_
    simp only [VW.down, Nat.reduceEqDiff, reduceCtorEq, Nat.reduceAdd, Nat.reduceLeDiff, Nat.reduceLT, Nat.reduceBEq, Nat.reduceSub, EE.down]
    obtain ⟨t12, ht12, h⟩ := Option.bind_eq_some_iff.1 h
    refine callX_n [] (F51_ok ht12) ?_ ?_ ?_ ?_ ?_ ?_
    · first | rfl | simp [nrmA, nrmC, nrm, A1.ren, C.ren, rn, List.length_set]
    · simp [liveAll, A1.live, C.live]
    · rfl
    · decide
    · exact trivial
    simp only [VW.down, Nat.reduceEqDiff, reduceCtorEq, Nat.reduceAdd, Nat.reduceLeDiff, Nat.reduceLT, Nat.reduceBEq, Nat.reduceSub, EE.down]
    obtain rfl := Option.some.inj h
    exact eF [some 1, some 2, some 3, some 4, some 6, some 7]

/- orchestrator/nodelife.clamp -/
def F23 (x0 : Int) : Option (Unit) := some (())
def a23 : AFn := ⟨6, [(.tmp 2)],
 (.seq (.reg [⟨(some 2), none, .mv (kI 0), [], (.new [])⟩])
 (.seq (.reg [⟨(some 3), none, .mv (.t 0), [], (.new [])⟩,
   ⟨(some 4), none, .max (.t 3) (kI 0), [], (.new [])⟩,
   ⟨(some 5), none, .min (.t 4) (kI 1000000000000), [], (.new [])⟩,
   ⟨(some 2), none, .mv (.t 5), [], (.new [])⟩])
 .ret))⟩
theorem a23_ok : afn Try.prog 23 = some a23.er := by kernel_rfl
theorem F23_ok {x0 : Int} {r : Unit} (h : F23 x0 = some r) : CallD Try.prog 23 [.c (.d (.v (.int .i64 x0)))] [] (tupV [.c (.d (.v (.int .i64 ((if 1000000000000 < (if x0 < 0 then 0 else x0) then 1000000000000 else (if x0 < 0 then 0 else x0))))))]) [] := by
  refine callS a23_ok (by simp [a23]) ?_
  rw [F23] at h
  simp only [a23, VW.down, Nat.reduceEqDiff, reduceCtorEq, Nat.reduceAdd, Nat.reduceLeDiff, Nat.reduceLT, Nat.reduceBEq, Nat.reduceSub, EE.down]
  obtain rfl := Option.some.inj h
  exact eF []

/- orchestrator/nodelife.managed -/
def F24  : Option (Unit) := some (())
def a24 : AFn := ⟨6, [(.tmp 0)],
 (.seq (.reg [⟨(some 0), none, .mv kN, [], (.new [])⟩])
 (.seq (.reg [⟨(some 1), none, .build [.d (.v (.string ⟨#[]⟩)), .d (.v (.string ⟨#[]⟩)), .d (.v (.int .i64 0)), .d (.v (.int .i64 0))] [(0, 1, (kS ⟨#[110, 111, 100, 101, 45, 110, 111, 116, 45, 114, 101, 97, 100, 121]⟩)), (2, 1, (kI 1))], [], (.new [])⟩,
   ⟨(some 2), none, .build [.d (.v (.string ⟨#[]⟩)), .d (.v (.string ⟨#[]⟩)), .d (.v (.int .i64 0)), .d (.v (.int .i64 0))] [(0, 1, (kS ⟨#[110, 111, 100, 101, 45, 110, 111, 116, 45, 114, 101, 97, 100, 121]⟩)), (2, 1, (kI 3))], [], (.new [])⟩,
   ⟨(some 3), none, .build [.d (.v (.string ⟨#[]⟩)), .d (.v (.string ⟨#[]⟩)), .d (.v (.int .i64 0)), .d (.v (.int .i64 0))] [(0, 1, (kS ⟨#[108, 111, 119, 45, 109, 101, 109, 111, 114, 121]⟩)), (2, 1, (kI 1))], [], (.new [])⟩,
   ⟨(some 4), none, .build [.d (.v (.string ⟨#[]⟩)), .d (.v (.string ⟨#[]⟩)), .d (.v (.int .i64 0)), .d (.v (.int .i64 0))] [(0, 1, (kS ⟨#[108, 111, 119, 45, 100, 105, 115, 107]⟩)), (2, 1, (kI 1))], [], (.new [])⟩,
   ⟨(some 5), none, .bslice 4 [(.t 1), (.t 2), (.t 3), (.t 4)], [], (.new [])⟩,
   ⟨(some 0), none, .mv (.t 5), [], (.new [])⟩])
 .ret))⟩
theorem a24_ok : afn Try.prog 24 = some a24.er := by kernel_rfl
theorem F24_ok {r : Unit} (h : F24 = some r) : CallD Try.prog 24 [] [] (tupV [.c (.own 0 0 0 (((lit [(⟨(⟨#[110, 111, 100, 101, 45, 110, 111, 116, 45, 114, 101, 97, 100, 121]⟩ : ByteArray), (⟨#[]⟩ : ByteArray), 1, 0⟩ : Taint), (⟨(⟨#[110, 111, 100, 101, 45, 110, 111, 116, 45, 114, 101, 97, 100, 121]⟩ : ByteArray), (⟨#[]⟩ : ByteArray), 3, 0⟩ : Taint), (⟨(⟨#[108, 111, 119, 45, 109, 101, 109, 111, 114, 121]⟩ : ByteArray), (⟨#[]⟩ : ByteArray), 1, 0⟩ : Taint), (⟨(⟨#[108, 111, 119, 45, 100, 105, 115, 107]⟩ : ByteArray), (⟨#[]⟩ : ByteArray), 1, 0⟩ : Taint)])).length) none)]) [some (.arr 0 4 (((lit [(⟨(⟨#[110, 111, 100, 101, 45, 110, 111, 116, 45, 114, 101, 97, 100, 121]⟩ : ByteArray), (⟨#[]⟩ : ByteArray), 1, 0⟩ : Taint), (⟨(⟨#[110, 111, 100, 101, 45, 110, 111, 116, 45, 114, 101, 97, 100, 121]⟩ : ByteArray), (⟨#[]⟩ : ByteArray), 3, 0⟩ : Taint), (⟨(⟨#[108, 111, 119, 45, 109, 101, 109, 111, 114, 121]⟩ : ByteArray), (⟨#[]⟩ : ByteArray), 1, 0⟩ : Taint), (⟨(⟨#[108, 111, 119, 45, 100, 105, 115, 107]⟩ : ByteArray), (⟨#[]⟩ : ByteArray), 1, 0⟩ : Taint)])).map eTaint))] := by
  refine callS a24_ok (by simp [a24]) ?_
  rw [F24] at h
  simp only [a24, VW.down, Nat.reduceEqDiff, reduceCtorEq, Nat.reduceAdd, Nat.reduceLeDiff, Nat.reduceLT, Nat.reduceBEq, Nat.reduceSub, EE.down]
  refine t_bslice (enc := eTaint) (ys := (lit [(⟨(⟨#[110, 111, 100, 101, 45, 110, 111, 116, 45, 114, 101, 97, 100, 121]⟩ : ByteArray), (⟨#[]⟩ : ByteArray), 1, 0⟩ : Taint), (⟨(⟨#[110, 111, 100, 101, 45, 110, 111, 116, 45, 114, 101, 97, 100, 121]⟩ : ByteArray), (⟨#[]⟩ : ByteArray), 3, 0⟩ : Taint), (⟨(⟨#[108, 111, 119, 45, 109, 101, 109, 111, 114, 121]⟩ : ByteArray), (⟨#[]⟩ : ByteArray), 1, 0⟩ : Taint), (⟨(⟨#[108, 111, 119, 45, 100, 105, 115, 107]⟩ : ByteArray), (⟨#[]⟩ : ByteArray), 1, 0⟩ : Taint)])) rfl rfl (by simp [A1.cells]) (by first | rfl | (simp only [List.drop_zero, take_mapL]; rfl)) ?_
  simp only [VW.down, Nat.reduceEqDiff, reduceCtorEq, Nat.reduceAdd, Nat.reduceLeDiff, Nat.reduceLT, Nat.reduceBEq, Nat.reduceSub, EE.down]
  obtain rfl := Option.some.inj h
  exact eF [some 0]

/- orchestrator/nodelife.same -/
def F55 (x0 : Taint) (x1 : Taint) : Option (Bool) := (((if x0.Key = x1.Key then (if x0.Value = x1.Value then some (decide (x0.Effect = x1.Effect)) else some false) else some false)).bind fun o1 => some o1)
def a55 : AFn := ⟨24, [(.tmp 4)],
 (.seq (.reg [⟨(some 2), none, .box (.t 0), [], (.new [])⟩,
   ⟨(some 3), none, .box (.t 1), [], (.new [])⟩,
   ⟨(some 4), none, .mv (kB false), [], (.new [])⟩])
 (.seq (.sem (.reg [⟨(some 5), none, .fieldA 0 (.t 2), [], (.new [])⟩,
   ⟨(some 6), none, .load none (.t 5), [], (.new [])⟩,
   ⟨(some 7), none, .fieldA 0 (.t 3), [], (.new [])⟩,
   ⟨(some 8), none, .load none (.t 7), [], (.new [])⟩,
   ⟨(some 9), none, .bin .eql (.t 6) (.t 8), [], (.new [])⟩,
   ⟨(some 10), none, .mv (.t 9), [], (.new [])⟩,
   ⟨(some 11), (some (10, true)), .fieldA 1 (.t 2), [], (.new [])⟩,
   ⟨(some 12), (some (10, true)), .load none (.t 11), [], (.new [])⟩,
   ⟨(some 13), (some (10, true)), .fieldA 1 (.t 3), [], (.new [])⟩,
   ⟨(some 14), (some (10, true)), .load none (.t 13), [], (.new [])⟩,
   ⟨(some 15), (some (10, true)), .bin .eql (.t 12) (.t 14), [], (.new [])⟩,
   ⟨(some 16), none, .pick (.t 10) (.t 15) (kB false), [], (.new [])⟩,
   ⟨(some 17), none, .mv (.t 16), [], (.new [])⟩,
   ⟨(some 18), (some (17, true)), .fieldA 2 (.t 2), [], (.new [])⟩,
   ⟨(some 19), (some (17, true)), .load none (.t 18), [], (.new [])⟩,
   ⟨(some 20), (some (17, true)), .fieldA 2 (.t 3), [], (.new [])⟩,
   ⟨(some 21), (some (17, true)), .load none (.t 20), [], (.new [])⟩,
   ⟨(some 22), (some (17, true)), .bin .eql (.t 19) (.t 21), [], (.new [])⟩,
   ⟨(some 23), none, .pick (.t 17) (.t 22) (kB false), [], (.new [])⟩,
   ⟨(some 4), none, .mv (.t 23), [], (.new [])⟩]))
 .ret))⟩
theorem a55_ok : afn Try.prog 55 = some a55.er := by kernel_rfl
theorem F55_ok {x0 : Taint} {x1 : Taint} {r : Bool} (h : F55 x0 x1 = some r) : CallD Try.prog 55 [.agg [.d (.v (.string x0.Key)), .d (.v (.string x0.Value)), .d (.v (.int .i64 x0.Effect)), .d (.v (.int .i64 x0.Since))], .agg [.d (.v (.string x1.Key)), .d (.v (.string x1.Value)), .d (.v (.int .i64 x1.Effect)), .d (.v (.int .i64 x1.Since))]] [] (tupV [.c (.d (.v (.bool r)))]) [] := by
  refine callS a55_ok (by simp [a55]) ?_
  rw [F55] at h
  simp only [a55, VW.down, Nat.reduceEqDiff, reduceCtorEq, Nat.reduceAdd, Nat.reduceLeDiff, Nat.reduceLT, Nat.reduceBEq, Nat.reduceSub, EE.down]
  obtain ⟨o1, ho, h⟩ := Option.bind_eq_some_iff.1 h
  refine cutS (fun s => s = ⟨[(4, .one (.c (.d (.v (.bool o1)))))], []⟩) ?_ ?_
  · have h := ho
    clear ho
    simp only [VW.down, Nat.reduceEqDiff, reduceCtorEq, Nat.reduceAdd, Nat.reduceLeDiff, Nat.reduceLT, Nat.reduceBEq, Nat.reduceSub, EE.down]
    refine guardS (fun g2 => ?_) (fun g2 => ?_)
    · have h := (if_pos g2).symm.trans h
      simp only [VW.down, Nat.reduceEqDiff, reduceCtorEq, Nat.reduceAdd, Nat.reduceLeDiff, Nat.reduceLT, Nat.reduceBEq, Nat.reduceSub, EE.down]
      refine guardS (fun g3 => ?_) (fun g3 => ?_)
      · have h := (if_pos g3).symm.trans h
        simp only [VW.down, Nat.reduceEqDiff, reduceCtorEq, Nat.reduceAdd, Nat.reduceLeDiff, Nat.reduceLT, Nat.reduceBEq, Nat.reduceSub, EE.down]
        obtain rfl := Option.some.inj h
        exact eM [] rfl
      · have h := (if_neg g3).symm.trans h
        simp only [VW.down, Nat.reduceEqDiff, reduceCtorEq, Nat.reduceAdd, Nat.reduceLeDiff, Nat.reduceLT, Nat.reduceBEq, Nat.reduceSub, EE.down]
        obtain rfl := Option.some.inj h
        exact eM [] rfl
    · have h := (if_neg g2).symm.trans h
      simp only [VW.down, Nat.reduceEqDiff, reduceCtorEq, Nat.reduceAdd, Nat.reduceLeDiff, Nat.reduceLT, Nat.reduceBEq, Nat.reduceSub, EE.down]
      obtain rfl := Option.some.inj h
      exact eM [] rfl
  · rintro _ rfl
    clear ho
    simp only [VW.down, Nat.reduceEqDiff, reduceCtorEq, Nat.reduceAdd, Nat.reduceLeDiff, Nat.reduceLT, Nat.reduceBEq, Nat.reduceSub, EE.down]
    obtain rfl := Option.some.inj h
    exact eF []

/- orchestrator/nodelife.has$1 -/
def F54 (x0 : Taint) (b0 : Taint) : Option (Bool) := (F55 b0 x0).bind fun t1 => some t1
def a54 : AFn := ⟨7, [(.tmp 3)],
 (.seq (.reg [⟨(some 2), none, .box (.t 0), [], (.new [])⟩,
   ⟨(some 3), none, .mv (kB false), [], (.new [])⟩])
 (.seq (.reg [⟨(some 4), none, .load (some 4) (.t 1), [], (.new [])⟩,
   ⟨(some 5), none, .load (some 4) (.t 2), [], (.new [])⟩,
   ⟨(some 6), none, .call 55 [(.t 4), (.t 5)], [], (.new [])⟩,
   ⟨(some 3), none, .mv (.t 6), [], (.new [])⟩])
 .ret))⟩
theorem a54_ok : afn Try.prog 54 = some a54.er := by kernel_rfl
theorem F54_ok {x0 : Taint} {b0 : Taint} {r : Bool} (h : F54 x0 b0 = some r) : CallD Try.prog 54 [.agg [.d (.v (.string x0.Key)), .d (.v (.string x0.Value)), .d (.v (.int .i64 x0.Effect)), .d (.v (.int .i64 x0.Since))], .c (.pt 0 0)] [some (.box [.d (.v (.string b0.Key)), .d (.v (.string b0.Value)), .d (.v (.int .i64 b0.Effect)), .d (.v (.int .i64 b0.Since))])] (tupV [.c (.d (.v (.bool r)))]) [some (.box [.d (.v (.string b0.Key)), .d (.v (.string b0.Value)), .d (.v (.int .i64 b0.Effect)), .d (.v (.int .i64 b0.Since))])] := by
  refine callS a54_ok (by simp [a54]) ?_
  rw [F54] at h
  simp only [a54, VW.down, Nat.reduceEqDiff, reduceCtorEq, Nat.reduceAdd, Nat.reduceLeDiff, Nat.reduceLT, Nat.reduceBEq, Nat.reduceSub, EE.down]
  obtain ⟨t1, ht1, h⟩ := Option.bind_eq_some_iff.1 h
  refine callX_n [] (F55_ok ht1) ?_ ?_ ?_ ?_ ?_ ?_
  · first | rfl | simp [nrmA, nrmC, nrm, A1.ren, C.ren, rn, List.length_set]
  · simp [liveAll, A1.live, C.live]
  · rfl
  · decide
  · exact trivial
  simp only [VW.down, Nat.reduceEqDiff, reduceCtorEq, Nat.reduceAdd, Nat.reduceLeDiff, Nat.reduceLT, Nat.reduceBEq, Nat.reduceSub, EE.down]
  obtain rfl := Option.some.inj h
  exact eF [some 0]

/- slices.IndexFunc[[]orchestrator/api.Taint,orchestrator/api.Taint] -/
def F52_l1 (b0 : Taint) : List Taint → Nat → Option ((Int) ⊕ (Unit))
  | [], o1_0 => some (Sum.inr (()))
  | xo1 :: xs, o1_0 => (F54 xo1 b0).bind fun t3 => (if t3 = true then (some ((o1_0 : Int))).map Sum.inl else F52_l1 b0 xs (o1_0 + 1))
def F52 (x0 : (List Taint)) (b0 : Taint) : Option (Int) := (((ck (0 ≤ x0.length ∧ x0.length ≤ 4294967290)).bind fun u5 => F52_l1 b0 x0 0).bind fun o1 => match o1 with | Sum.inl f => some f | Sum.inr po1 => some ((-1)))
def a52 : AFn := ⟨19, [(.tmp 4)],
 (.seq (.reg [⟨(some 4), none, .mv (kI 0), [], (.new [])⟩])
 (.seq (.seq (.reg [⟨(some 6), none, .mv (.t 0), [], (.new [])⟩,
   ⟨(some 7), none, .len (.t 6), [], (.new [])⟩,
   ⟨(some 8), none, .mv (kI 0), [], (.new [])⟩])
 (.sem (.block 0 (.loop (.seq (.reg [⟨(some 9), none, .bin .lss (.t 8) (.t 7), [], (.new [])⟩])
 (.seq (.cond (.t 9)
 .skip
 (.exit 0))
 (.seq (.block 1 (.seq (.reg [⟨(some 10), none, .mv (.t 8), [], (.new [])⟩,
   ⟨(some 5), none, .mv (.t 10), [], (.new [])⟩])
 (.seq (.reg [⟨(some 11), none, .mv (.t 1), [], (.new [])⟩,
   ⟨(some 12), none, .mv (.t 0), [], (.new [])⟩,
   ⟨(some 13), none, .mv (.t 5), [], (.new [])⟩,
   ⟨(some 14), none, .indexA 4 (.t 12) (.t 13), [], (.new [])⟩,
   ⟨(some 15), none, .load (some 4) (.t 14), [], (.new [])⟩,
   ⟨(some 16), none, .callv (.t 11) [(.t 15)], [], (.lone [12, 14])⟩])
 (.cond (.t 16)
 (.seq (.reg [⟨(some 17), none, .mv (.t 5), [], (.new [])⟩,
   ⟨(some 4), none, .mv (.t 17), [], (.new [])⟩])
 .ret)
 .skip))))
 (.reg [⟨(some 18), none, .bin .add (.t 8) (kI 1), [], (.new [])⟩,
   ⟨(some 8), none, .mv (.t 18), [], (.new [])⟩]))))))))
 (.seq (.reg [⟨(some 4), none, .mv (kI (-1)), [], (.new [])⟩])
 .ret)))⟩
theorem a52_ok : afn Try.prog 52 = some a52.er := by kernel_rfl
theorem F52_ok {x0 : (List Taint)} {b0 : Taint} {r : Int} (h : F52 x0 b0 = some r) : CallD Try.prog 52 [.c (.d (.sl (x0.map eTaint))), .c (.fn 54 [(0, 0)])] [some (.box [.d (.v (.string b0.Key)), .d (.v (.string b0.Value)), .d (.v (.int .i64 b0.Effect)), .d (.v (.int .i64 b0.Since))])] (tupV [.c (.d (.v (.int .i64 r)))]) [some (.box [.d (.v (.string b0.Key)), .d (.v (.string b0.Value)), .d (.v (.int .i64 b0.Effect)), .d (.v (.int .i64 b0.Since))])] := by
  refine callS a52_ok (by simp [a52]) ?_
  rw [F52] at h
  simp only [a52, VW.down, Nat.reduceEqDiff, reduceCtorEq, Nat.reduceAdd, Nat.reduceLeDiff, Nat.reduceLT, Nat.reduceBEq, Nat.reduceSub, EE.down]
  obtain ⟨o1, ho, h⟩ := Option.bind_eq_some_iff.1 h
  refine cutS (fun s => ∃ po1, o1 = Sum.inr po1 ∧ s = ⟨[], [some (.box [.d (.v (.string b0.Key)), .d (.v (.string b0.Value)), .d (.v (.int .i64 b0.Effect)), .d (.v (.int .i64 b0.Since))])]⟩) ?_ ?_
  · have h0o1 := h
    have h := ho
    clear ho
    obtain ⟨_, hk, h⟩ := Option.bind_eq_some_iff.1 h
    have hk := ck_some hk
    simp only [VW.down, Nat.reduceEqDiff, reduceCtorEq, Nat.reduceAdd, Nat.reduceLeDiff, Nat.reduceLT, Nat.reduceBEq, Nat.reduceSub, EE.down]
    refine bL (fun j s => ∃ (o1_0 : Nat), (o1_0 ≤ x0.length ∧ j = x0.length - o1_0) ∧ s = ⟨[(0, .one (.c (.d (.sl (x0.map eTaint))))), (1, .one (.c (.fn 54 [(0, 0)]))), (7, .one (.c (.d (.v (.int .i64 ((x0.length : Int))))))), (8, .one (.c (.d (.v (.int .i64 ((o1_0 : Int)))))))], [some (.box [.d (.v (.string b0.Key)), .d (.v (.string b0.Value)), .d (.v (.int .i64 b0.Effect)), .d (.v (.int .i64 b0.Since))])]⟩ ∧ F52_l1 b0 (x0.drop o1_0) o1_0 = some o1) (x0.length - 0) [some 0] ⟨0, ⟨hk.1, rfl⟩, rfl, h⟩ ?_
    rintro _ _ ⟨o1_0, ⟨hi, rfl⟩, rfl, h⟩
    simp only [VW.down, Nat.reduceEqDiff, reduceCtorEq, Nat.reduceAdd, Nat.reduceLeDiff, Nat.reduceLT, Nat.reduceBEq, Nat.reduceSub, EE.down]
    refine condS (fun c2 => ?_) (fun c2 => ?_)
    · obtain ⟨xo1, hxo1, hd⟩ := countY (show (o1_0 : Int) < (x0.length : Int) from c2)
      rw [hd, F52_l1] at h
      simp only [VW.down, Nat.reduceEqDiff, reduceCtorEq, Nat.reduceAdd, Nat.reduceLeDiff, Nat.reduceLT, Nat.reduceBEq, Nat.reduceSub, EE.down]
      refine t_idxF (enc := eTaint) (xs := x0) rfl rfl hxo1 rfl ?_
      simp only [VW.down, Nat.reduceEqDiff, reduceCtorEq, Nat.reduceAdd, Nat.reduceLeDiff, Nat.reduceLT, Nat.reduceBEq, Nat.reduceSub, EE.down]
      obtain ⟨t3, ht3, h⟩ := Option.bind_eq_some_iff.1 h
      refine callX_n [0] (F54_ok ht3) ?_ ?_ ?_ ?_ ?_ ?_
      · first | rfl | simp [nrmA, nrmC, nrm, A1.ren, C.ren, rn, List.length_set]
      · simp [liveAll, A1.live, C.live, hp]
      · rfl
      · decide
      · exact ⟨⟨rfl, by simp [Blk.live, C.live, hp]⟩, trivial⟩
      simp only [VW.down, Nat.reduceEqDiff, reduceCtorEq, Nat.reduceAdd, Nat.reduceLeDiff, Nat.reduceLT, Nat.reduceBEq, Nat.reduceSub, EE.down]
      refine condB (fun c4 => ?_) (fun c4 => ?_)
      · have h := (if_pos c4).symm.trans h
        simp only [VW.down, Nat.reduceEqDiff, reduceCtorEq, Nat.reduceAdd, Nat.reduceLeDiff, Nat.reduceLT, Nat.reduceBEq, Nat.reduceSub, EE.down]
        obtain ⟨fh0o1, hfh0o1, rfl⟩ := Option.map_eq_some_iff.1 h
        have h := hfh0o1.trans h0o1
        obtain rfl := Option.some.inj h
        exact eF [some 0]
      · have h := (if_neg c4).symm.trans h
        simp only [VW.down, Nat.reduceEqDiff, reduceCtorEq, Nat.reduceAdd, Nat.reduceLeDiff, Nat.reduceLT, Nat.reduceBEq, Nat.reduceSub, EE.down]
        rw [wrapN (by omega)]
        exact eL' (x0.length - (o1_0 + 1)) [some 0] ⟨o1_0 + 1, ⟨by omega, rfl⟩, rfl, h⟩ (by omega)
    · rw [countN (show ¬ ((o1_0 : Int) < (x0.length : Int)) from c2), F52_l1] at h
      simp only [VW.down, Nat.reduceEqDiff, reduceCtorEq, Nat.reduceAdd, Nat.reduceLeDiff, Nat.reduceLT, Nat.reduceBEq, Nat.reduceSub, EE.down]
      obtain rfl := Option.some.inj h
      exact eM [some 0] ⟨_, rfl, rfl⟩
  · rintro _ ⟨po1, rfl, rfl⟩
    clear ho
    dsimp only at h
    simp only [VW.down, Nat.reduceEqDiff, reduceCtorEq, Nat.reduceAdd, Nat.reduceLeDiff, Nat.reduceLT, Nat.reduceBEq, Nat.reduceSub, EE.down]
    obtain rfl := Option.some.inj h
    exact eF [some 0]

/- slices.ContainsFunc[[]orchestrator/api.Taint,orchestrator/api.Taint] -/
def F53 (x0 : (List Taint)) (b0 : Taint) : Option (Bool) := (F52 x0 b0).bind fun t1 => some (decide (0 ≤ t1))
def a53 : AFn := ⟨9, [(.tmp 4)],
 (.seq (.reg [⟨(some 4), none, .mv (kB false), [], (.new [])⟩])
 (.seq (.reg [⟨(some 5), none, .mv (.t 0), [], (.new [])⟩,
   ⟨(some 6), none, .mv (.t 1), [], (.new [])⟩,
   ⟨(some 7), none, .call 52 [(.t 5), (.t 6)], [], (.new [])⟩,
   ⟨(some 8), none, .bin .geq (.t 7) (kI 0), [], (.new [])⟩,
   ⟨(some 4), none, .mv (.t 8), [], (.new [])⟩])
 .ret))⟩
theorem a53_ok : afn Try.prog 53 = some a53.er := by kernel_rfl
theorem F53_ok {x0 : (List Taint)} {b0 : Taint} {r : Bool} (h : F53 x0 b0 = some r) : CallD Try.prog 53 [.c (.d (.sl (x0.map eTaint))), .c (.fn 54 [(0, 0)])] [some (.box [.d (.v (.string b0.Key)), .d (.v (.string b0.Value)), .d (.v (.int .i64 b0.Effect)), .d (.v (.int .i64 b0.Since))])] (tupV [.c (.d (.v (.bool r)))]) [some (.box [.d (.v (.string b0.Key)), .d (.v (.string b0.Value)), .d (.v (.int .i64 b0.Effect)), .d (.v (.int .i64 b0.Since))])] := by
  refine callS a53_ok (by simp [a53]) ?_
  rw [F53] at h
  simp only [a53, VW.down, Nat.reduceEqDiff, reduceCtorEq, Nat.reduceAdd, Nat.reduceLeDiff, Nat.reduceLT, Nat.reduceBEq, Nat.reduceSub, EE.down]
  obtain ⟨t1, ht1, h⟩ := Option.bind_eq_some_iff.1 h
  refine callX_n [0] (F52_ok ht1) ?_ ?_ ?_ ?_ ?_ ?_
  · first | rfl | simp [nrmA, nrmC, nrm, A1.ren, C.ren, rn, List.length_set]
  · simp [liveAll, A1.live, C.live, hp]
  · rfl
  · decide
  · exact ⟨⟨rfl, by simp [Blk.live, C.live, hp]⟩, trivial⟩
  simp only [VW.down, Nat.reduceEqDiff, reduceCtorEq, Nat.reduceAdd, Nat.reduceLeDiff, Nat.reduceLT, Nat.reduceBEq, Nat.reduceSub, EE.down]
  obtain rfl := Option.some.inj h
  exact eF [some 0]

/- orchestrator/nodelife.has -/
def F27 (x0 : (List Taint)) (x1 : Taint) : Option (Bool) := (F53 x0 x1).bind fun t1 => some t1
def a27 : AFn := ⟨8, [(.tmp 4)],
 (.seq (.reg [⟨(some 3), none, .box (.t 1), [], (.new [])⟩,
   ⟨(some 4), none, .mv (kB false), [], (.new [])⟩])
 (.seq (.reg [⟨(some 5), none, .mv (.t 0), [], (.new [])⟩,
   ⟨(some 6), none, .fn 54 [(.t 3)], [], (.new [])⟩,
   ⟨(some 7), none, .call 53 [(.t 5), (.t 6)], [], (.new [])⟩,
   ⟨(some 4), none, .mv (.t 7), [], (.new [])⟩])
 .ret))⟩
theorem a27_ok : afn Try.prog 27 = some a27.er := by kernel_rfl
theorem F27_ok {x0 : (List Taint)} {x1 : Taint} {r : Bool} (h : F27 x0 x1 = some r) : CallD Try.prog 27 [.c (.d (.sl (x0.map eTaint))), .agg [.d (.v (.string x1.Key)), .d (.v (.string x1.Value)), .d (.v (.int .i64 x1.Effect)), .d (.v (.int .i64 x1.Since))]] [] (tupV [.c (.d (.v (.bool r)))]) [] := by
  refine callS a27_ok (by simp [a27]) ?_
  rw [F27] at h
  simp only [a27, VW.down, Nat.reduceEqDiff, reduceCtorEq, Nat.reduceAdd, Nat.reduceLeDiff, Nat.reduceLT, Nat.reduceBEq, Nat.reduceSub, EE.down]
  obtain ⟨t1, ht1, h⟩ := Option.bind_eq_some_iff.1 h
  refine callX_n [0] (F53_ok ht1) ?_ ?_ ?_ ?_ ?_ ?_
  · first | rfl | simp [nrmA, nrmC, nrm, A1.ren, C.ren, rn, List.length_set]
  · simp [liveAll, A1.live, C.live, hp]
  · rfl
  · decide
  · exact ⟨⟨rfl, by simp [Blk.live, C.live, hp]⟩, trivial⟩
  simp only [VW.down, Nat.reduceEqDiff, reduceCtorEq, Nat.reduceAdd, Nat.reduceLeDiff, Nat.reduceLT, Nat.reduceBEq, Nat.reduceSub, EE.down]
  obtain rfl := Option.some.inj h
  exact eF []

/- orchestrator/nodelife.Check$1 -/
def F26 (x0 : Taint) (b0 : (List Taint)) : Option (Bool) := (((F24).bind fun t2 => (F27 ((lit [(⟨(⟨#[110, 111, 100, 101, 45, 110, 111, 116, 45, 114, 101, 97, 100, 121]⟩ : ByteArray), (⟨#[]⟩ : ByteArray), 1, 0⟩ : Taint), (⟨(⟨#[110, 111, 100, 101, 45, 110, 111, 116, 45, 114, 101, 97, 100, 121]⟩ : ByteArray), (⟨#[]⟩ : ByteArray), 3, 0⟩ : Taint), (⟨(⟨#[108, 111, 119, 45, 109, 101, 109, 111, 114, 121]⟩ : ByteArray), (⟨#[]⟩ : ByteArray), 1, 0⟩ : Taint), (⟨(⟨#[108, 111, 119, 45, 100, 105, 115, 107]⟩ : ByteArray), (⟨#[]⟩ : ByteArray), 1, 0⟩ : Taint)])) x0).bind fun t3 => (if t3 = true then (F27 b0 x0).bind fun t5 => some (nb t5) else some false)).bind fun o1 => some o1)
def a26 : AFn := ⟨13, [(.tmp 3)],
 (.seq (.reg [⟨(some 2), none, .box (.t 0), [], (.new [])⟩,
   ⟨(some 3), none, .mv (kB false), [], (.new [])⟩])
 (.seq (.sem (.regd [⟨(some 4), none, .call 24 [], [], (.new [])⟩,
   ⟨(some 5), none, .load (some 4) (.t 2), [], (.new [])⟩,
   ⟨(some 6), none, .call 27 [(.t 4), (.t 5)], [0, 1], (.lone [])⟩,
   ⟨(some 7), none, .mv (.t 6), [0, 1, 2], (.new [])⟩,
   ⟨(some 8), (some (7, true)), .load none (.t 1), [0, 1, 2, 3], (.new [])⟩,
   ⟨(some 9), (some (7, true)), .load (some 4) (.t 2), [0, 1, 2, 3], (.new [])⟩,
   ⟨(some 10), (some (7, true)), .call 27 [(.t 8), (.t 9)], [0, 1, 2, 3, 4, 5], (.lone [])⟩,
   ⟨(some 11), (some (7, true)), .not (.t 10), [0, 1, 2, 3, 4, 5, 6], (.new [])⟩,
   ⟨(some 12), none, .pick (.t 7) (.t 11) (kB false), [0, 1, 2, 3, 4, 5, 6, 7], (.lone [])⟩,
   ⟨(some 3), none, .mv (.t 12), [0, 1, 2, 3, 4, 5, 6, 7, 8], (.new [])⟩]))
 .ret))⟩
theorem a26_ok : afn Try.prog 26 = some a26.er := by kernel_rfl
theorem F26_ok {x0 : Taint} {b0 : (List Taint)} {r : Bool} {e1 : Nat} (h : F26 x0 b0 = some r) : CallD Try.prog 26 [.agg [.d (.v (.string x0.Key)), .d (.v (.string x0.Value)), .d (.v (.int .i64 x0.Effect)), .d (.v (.int .i64 x0.Since))], .c (.pt 0 0)] [some (.box [.own 1 e1 0 (b0.length) none]), some (.arr e1 4 (b0.map eTaint))] (tupV [.c (.d (.v (.bool r)))]) [some (.box [.own 1 e1 0 (b0.length) none]), some (.arr e1 4 (b0.map eTaint))] := by
  refine callS a26_ok (by simp [a26]) ?_
  rw [F26] at h
  simp only [a26, VW.down, Nat.reduceEqDiff, reduceCtorEq, Nat.reduceAdd, Nat.reduceLeDiff, Nat.reduceLT, Nat.reduceBEq, Nat.reduceSub, EE.down]
  obtain ⟨o1, ho, h⟩ := Option.bind_eq_some_iff.1 h
  refine cutS (fun s => s = ⟨[(3, .one (.c (.d (.v (.bool o1)))))], [some (.box [.own 1 e1 0 (b0.length) none]), some (.arr e1 4 (b0.map eTaint))]⟩) ?_ ?_
  · have h := ho
    clear ho
    simp only [VW.down, Nat.reduceEqDiff, reduceCtorEq, Nat.reduceAdd, Nat.reduceLeDiff, Nat.reduceLT, Nat.reduceBEq, Nat.reduceSub, EE.down]
    obtain ⟨t2, ht2, h⟩ := Option.bind_eq_some_iff.1 h
    refine callX_n [] (F24_ok ht2) ?_ ?_ ?_ ?_ ?_ ?_
    · first | rfl | simp [nrmA, nrmC, nrm, A1.ren, C.ren, rn, List.length_set]
    · simp [liveAll, A1.live, C.live]
    · rfl
    · decide
    · exact trivial
    simp only [VW.down, Nat.reduceEqDiff, reduceCtorEq, Nat.reduceAdd, Nat.reduceLeDiff, Nat.reduceLT, Nat.reduceBEq, Nat.reduceSub, EE.down]
    refine kD_new (by simp [wrs, allW, hset]) ?_
    simp only [VW.down, Nat.reduceEqDiff, reduceCtorEq, Nat.reduceAdd, Nat.reduceLeDiff, Nat.reduceLT, Nat.reduceBEq, Nat.reduceSub, EE.down]
    obtain ⟨t3, ht3, h⟩ := Option.bind_eq_some_iff.1 h
    refine callX_bor (F27_ok ht3) (by simp only [borAs, bors, hp, List.getElem?_cons_zero, List.getElem?_cons_succ, Option.join_some, List.drop_zero, bor_full', true_and, Nat.zero_add, List.length_map, Nat.le_refl, nrm, List.length_cons, List.length_nil, Nat.reduceAdd, Nat.reduceLeDiff, List.take_succ_cons, List.take_zero, List.take_nil, List.map_cons, List.map_nil, List.length_set, EE.down]) rfl ?_
    simp only [VW.down, Nat.reduceEqDiff, reduceCtorEq, Nat.reduceAdd, Nat.reduceLeDiff, Nat.reduceLT, Nat.reduceBEq, Nat.reduceSub, EE.down]
    refine guardDB (fun g4 => ?_) (fun g4 => ?_)
    · have h := (if_pos g4).symm.trans h
      simp only [VW.down, Nat.reduceEqDiff, reduceCtorEq, Nat.reduceAdd, Nat.reduceLeDiff, Nat.reduceLT, Nat.reduceBEq, Nat.reduceSub, EE.down]
      obtain ⟨t5, ht5, h⟩ := Option.bind_eq_some_iff.1 h
      refine callX_bor (F27_ok ht5) (by simp only [borAs, bors, hp, List.getElem?_cons_zero, List.getElem?_cons_succ, Option.join_some, List.drop_zero, bor_full', true_and, Nat.zero_add, List.length_map, Nat.le_refl, nrm, List.length_cons, List.length_nil, Nat.reduceAdd, Nat.reduceLeDiff, List.take_succ_cons, List.take_zero, List.take_nil, List.map_cons, List.map_nil, List.length_set, EE.down]) rfl ?_
      simp only [VW.down, Nat.reduceEqDiff, reduceCtorEq, Nat.reduceAdd, Nat.reduceLeDiff, Nat.reduceLT, Nat.reduceBEq, Nat.reduceSub, EE.down]
      obtain rfl := Option.some.inj h
      exact eM [some 0, some 1] rfl
    · have h := (if_neg g4).symm.trans h
      simp only [VW.down, Nat.reduceEqDiff, reduceCtorEq, Nat.reduceAdd, Nat.reduceLeDiff, Nat.reduceLT, Nat.reduceBEq, Nat.reduceSub, EE.down]
      obtain rfl := Option.some.inj h
      exact eM [some 0, some 1] rfl
  · rintro _ rfl
    clear ho
    simp only [VW.down, Nat.reduceEqDiff, reduceCtorEq, Nat.reduceAdd, Nat.reduceLeDiff, Nat.reduceLT, Nat.reduceBEq, Nat.reduceSub, EE.down]
    obtain rfl := Option.some.inj h
    exact eF [some 0, some 1]

/- slices.IndexFunc[[]orchestrator/api.Taint,orchestrator/api.Taint] -/
def F52v1_l1 (b1 : (List Taint)) (x0 : (List Taint)) : List Taint → Nat → Option ((Int) ⊕ (Unit))
  | [], o1_0 => some (Sum.inr (()))
  | xo1 :: xs, o1_0 => (rdI x0 ((o1_0 : Int))).bind fun y3 => (F26 y3 b1).bind fun t4 => (if t4 = true then (some ((o1_0 : Int))).map Sum.inl else F52v1_l1 b1 x0 xs (o1_0 + 1))
def F52v1 (x0 : (List Taint)) (b1 : (List Taint)) : Option (Int) := (((ck (0 ≤ x0.length ∧ x0.length ≤ 4294967290)).bind fun u6 => F52v1_l1 b1 x0 x0 0).bind fun o1 => match o1 with | Sum.inl f => some f | Sum.inr po1 => some ((-1)))
def a52v1 : AFn := ⟨19, [(.tmp 4)],
 (.seq (.reg [⟨(some 4), none, .mv (kI 0), [], (.new [])⟩])
 (.seq (.seq (.reg [⟨(some 6), none, .mv (.t 0), [], (.new [])⟩,
   ⟨(some 7), none, .len (.t 6), [], (.new [])⟩,
   ⟨(some 8), none, .mv (kI 0), [], (.new [])⟩])
 (.sem (.block 0 (.loop (.seq (.reg [⟨(some 9), none, .bin .lss (.t 8) (.t 7), [], (.new [])⟩])
 (.seq (.cond (.t 9)
 .skip
 (.exit 0))
 (.seq (.block 1 (.seq (.reg [⟨(some 10), none, .mv (.t 8), [], (.new [])⟩,
   ⟨(some 5), none, .mv (.t 10), [], (.new [])⟩])
 (.seq (.reg [⟨(some 11), none, .mv (.t 1), [], (.new [])⟩,
   ⟨(some 12), none, .mv (.t 0), [], (.new [])⟩,
   ⟨(some 13), none, .mv (.t 5), [], (.new [])⟩,
   ⟨(some 14), none, .indexA 4 (.t 12) (.t 13), [], (.new [])⟩,
   ⟨(some 15), none, .load (some 4) (.t 14), [], (.new [])⟩,
   ⟨(some 16), none, .callv (.t 11) [(.t 15)], [], (.lone [12, 14])⟩])
 (.cond (.t 16)
 (.seq (.reg [⟨(some 17), none, .mv (.t 5), [], (.new [])⟩,
   ⟨(some 4), none, .mv (.t 17), [], (.new [])⟩])
 .ret)
 .skip))))
 (.reg [⟨(some 18), none, .bin .add (.t 8) (kI 1), [], (.new [])⟩,
   ⟨(some 8), none, .mv (.t 18), [], (.new [])⟩]))))))))
 (.seq (.reg [⟨(some 4), none, .mv (kI (-1)), [], (.new [])⟩])
 .ret)))⟩
theorem a52v1_ok : afn Try.prog 52 = some a52v1.er := by kernel_rfl
theorem F52v1_ok {x0 : (List Taint)} {b1 : (List Taint)} {r : Int} {e0 : Nat} {e2 : Nat} (h : F52v1 x0 b1 = some r) : CallD Try.prog 52 [.c (.own 0 e0 0 (x0.length) none), .c (.fn 26 [(1, 0)])] [some (.arr e0 4 (x0.map eTaint)), some (.box [.own 2 e2 0 (b1.length) none]), some (.arr e2 4 (b1.map eTaint))] (tupV [.c (.d (.v (.int .i64 r)))]) [some (.arr e0 4 (x0.map eTaint)), some (.box [.own 2 e2 0 (b1.length) none]), some (.arr e2 4 (b1.map eTaint))] := by
  refine callS a52v1_ok (by simp [a52v1]) ?_
  rw [F52v1] at h
  simp only [a52v1, VW.down, Nat.reduceEqDiff, reduceCtorEq, Nat.reduceAdd, Nat.reduceLeDiff, Nat.reduceLT, Nat.reduceBEq, Nat.reduceSub, EE.down]
  obtain ⟨o1, ho, h⟩ := Option.bind_eq_some_iff.1 h
  refine cutS (fun s => ∃ po1, o1 = Sum.inr po1 ∧ s = ⟨[], [some (.arr e0 4 (x0.map eTaint)), some (.box [.own 2 e2 0 (b1.length) none]), some (.arr e2 4 (b1.map eTaint))]⟩) ?_ ?_
  · have h0o1 := h
    have h := ho
    clear ho
    obtain ⟨_, hk, h⟩ := Option.bind_eq_some_iff.1 h
    have hk := ck_some hk
    simp only [VW.down, Nat.reduceEqDiff, reduceCtorEq, Nat.reduceAdd, Nat.reduceLeDiff, Nat.reduceLT, Nat.reduceBEq, Nat.reduceSub, EE.down]
    refine bL (fun j s => ∃ (o1_0 : Nat), (o1_0 ≤ x0.length ∧ j = x0.length - o1_0) ∧ s = ⟨[(0, .one (.c (.own 0 e0 0 (x0.length) none))), (1, .one (.c (.fn 26 [(1, 0)]))), (7, .one (.c (.d (.v (.int .i64 ((x0.length : Int))))))), (8, .one (.c (.d (.v (.int .i64 ((o1_0 : Int)))))))], [some (.arr e0 4 (x0.map eTaint)), some (.box [.own 2 e2 0 (b1.length) none]), some (.arr e2 4 (b1.map eTaint))]⟩ ∧ F52v1_l1 b1 x0 (x0.drop o1_0) o1_0 = some o1) (x0.length - 0) [some 0, some 1, some 2] ⟨0, ⟨hk.1, rfl⟩, rfl, h⟩ ?_
    rintro _ _ ⟨o1_0, ⟨hi, rfl⟩, rfl, h⟩
    simp only [VW.down, Nat.reduceEqDiff, reduceCtorEq, Nat.reduceAdd, Nat.reduceLeDiff, Nat.reduceLT, Nat.reduceBEq, Nat.reduceSub, EE.down]
    refine condS (fun c2 => ?_) (fun c2 => ?_)
    · obtain ⟨xo1, hxo1, hd⟩ := countY (show (o1_0 : Int) < (x0.length : Int) from c2)
      rw [hd, F52v1_l1] at h
      simp only [VW.down, Nat.reduceEqDiff, reduceCtorEq, Nat.reduceAdd, Nat.reduceLeDiff, Nat.reduceLT, Nat.reduceBEq, Nat.reduceSub, EE.down]
      obtain ⟨y3, hy3, h⟩ := Option.bind_eq_some_iff.1 h
      refine t_idxO (enc := eTaint) (xs := x0) rfl rfl rfl (by first | rfl | simp only [List.length_set] | exact (clrL_len (slI_len (by assumption))).symm) hy3 ?_
      simp only [VW.down, Nat.reduceEqDiff, reduceCtorEq, Nat.reduceAdd, Nat.reduceLeDiff, Nat.reduceLT, Nat.reduceBEq, Nat.reduceSub, EE.down]
      refine LdRow.rd (rdI_some hy3).2.1 ?_
      simp only [VW.down, Nat.reduceEqDiff, reduceCtorEq, Nat.reduceAdd, Nat.reduceLeDiff, Nat.reduceLT, Nat.reduceBEq, Nat.reduceSub, EE.down]
      obtain ⟨t4, ht4, h⟩ := Option.bind_eq_some_iff.1 h
      refine callX_n [1, 2] (F26_ok (e1 := e2) ht4) ?_ ?_ ?_ ?_ ?_ ?_
      · first | rfl | simp [nrmA, nrmC, nrm, A1.ren, C.ren, rn, List.length_set]
      · simp [liveAll, A1.live, C.live, hp]
      · rfl
      · decide
      · exact ⟨⟨rfl, by simp [Blk.live, C.live, hp]⟩, ⟨⟨rfl, trivial⟩, trivial⟩⟩
      simp only [VW.down, Nat.reduceEqDiff, reduceCtorEq, Nat.reduceAdd, Nat.reduceLeDiff, Nat.reduceLT, Nat.reduceBEq, Nat.reduceSub, EE.down]
      refine condB (fun c5 => ?_) (fun c5 => ?_)
      · have h := (if_pos c5).symm.trans h
        simp only [VW.down, Nat.reduceEqDiff, reduceCtorEq, Nat.reduceAdd, Nat.reduceLeDiff, Nat.reduceLT, Nat.reduceBEq, Nat.reduceSub, EE.down]
        obtain ⟨fh0o1, hfh0o1, rfl⟩ := Option.map_eq_some_iff.1 h
        have h := hfh0o1.trans h0o1
        obtain rfl := Option.some.inj h
        exact eF [some 0, some 1, some 2]
      · have h := (if_neg c5).symm.trans h
        simp only [VW.down, Nat.reduceEqDiff, reduceCtorEq, Nat.reduceAdd, Nat.reduceLeDiff, Nat.reduceLT, Nat.reduceBEq, Nat.reduceSub, EE.down]
        rw [wrapN (by omega)]
        exact eL' (x0.length - (o1_0 + 1)) [some 0, some 1, some 2] ⟨o1_0 + 1, ⟨by omega, rfl⟩, rfl, h⟩ (by omega)
    · rw [countN (show ¬ ((o1_0 : Int) < (x0.length : Int)) from c2), F52v1_l1] at h
      simp only [VW.down, Nat.reduceEqDiff, reduceCtorEq, Nat.reduceAdd, Nat.reduceLeDiff, Nat.reduceLT, Nat.reduceBEq, Nat.reduceSub, EE.down]
      obtain rfl := Option.some.inj h
      exact eM [some 0, some 1, some 2] ⟨_, rfl, rfl⟩
  · rintro _ ⟨po1, rfl, rfl⟩
    clear ho
    dsimp only at h
    simp only [VW.down, Nat.reduceEqDiff, reduceCtorEq, Nat.reduceAdd, Nat.reduceLeDiff, Nat.reduceLT, Nat.reduceBEq, Nat.reduceSub, EE.down]
    obtain rfl := Option.some.inj h
    exact eF [some 0, some 1, some 2]

/- slices.DeleteFunc[[]orchestrator/api.Taint,orchestrator/api.Taint] -/
def F25_l3 (b1 : (List Taint)) : Nat → (List Taint) → Int → Int → Option ((List Taint) × Int)
  | 0, _, _, _ => none
  | k + 1, o3_0, o3_1, o3_2 => (if o3_2 < (o3_0.length : Int) then (((rdI o3_0 o3_2).bind fun y6 => (F26 y6 b1).bind fun t7 => (if (nb t7) = true then (rdI o3_0 o3_1).bind fun y9 => some (((o3_0.set o3_1.toNat y6), (IntKind.i64.wrap (o3_1 + 1)))) else some ((o3_0, o3_1)))).bind fun o5 => F25_l3 b1 k o5.1 o5.2 ((IntKind.i64.wrap (o3_2 + 1)))) else some ((o3_0, o3_1)))
def F25 (x0 : (List Taint)) (b1 : (List Taint)) : Option ((List Taint)) := (F52v1 x0 b1).bind fun t1 => (if t1 = (-1) then some x0 else ((F25_l3 b1 1099511627776 x0 t1 ((IntKind.i64.wrap (t1 + 1)))).bind fun o3 => (slI o3.1 o3.2 ((o3.1.length : Int))).bind fun s10 => (slI ((clrL o3.1 o3.2.toNat s10.length ((⟨(⟨#[]⟩ : ByteArray), (⟨#[]⟩ : ByteArray), 0, 0⟩ : Taint)))) 0 o3.2).bind fun s11 => some s11))
def a25 : AFn := ⟨42, [(.tmp 4)],
 (.seq (.reg [⟨(some 4), none, .mv kN, [], (.new [])⟩])
 (.seq (.reg [⟨(some 8), none, .mv (.t 0), [], (.new [])⟩,
   ⟨(some 9), none, .mv (.t 1), [], (.new [])⟩,
   ⟨(some 10), none, .call 52 [(.t 8), (.t 9)], [], (.new [])⟩,
   ⟨(some 5), none, .mv (.t 10), [], (.new [])⟩])
 (.seq (.seq (.reg [⟨(some 11), none, .mv (.t 5), [], (.new [])⟩,
   ⟨(some 12), none, .bin .eql (.t 11) (kI (-1)), [], (.new [])⟩])
 (.cond (.t 12)
 (.seq (.reg [⟨(some 13), none, .mv (.t 0), [], (.new [])⟩,
   ⟨(some 4), none, .mv (.t 13), [], (.new [])⟩])
 .ret)
 .skip))
 (.seq (.seq (.reg [⟨(some 14), none, .mv (.t 5), [], (.new [])⟩,
   ⟨(some 15), none, .bin .add (.t 14) (kI 1), [], (.new [])⟩,
   ⟨(some 6), none, .mv (.t 15), [], (.new [])⟩])
 (.sem (.block 0 (.loop (.seq (.seq (.reg [⟨(some 16), none, .mv (.t 6), [], (.new [])⟩,
   ⟨(some 17), none, .mv (.t 0), [], (.new [])⟩,
   ⟨(some 18), none, .len (.t 17), [], (.new [])⟩,
   ⟨(some 19), none, .bin .lss (.t 16) (.t 18), [], (.new [])⟩])
 (.cond (.t 19)
 .skip
 (.exit 0)))
 (.seq (.sem (.block 1 (.seq (.reg [⟨(some 22), none, .mv (.t 0), [], (.new [])⟩,
   ⟨(some 23), none, .mv (.t 6), [], (.new [])⟩,
   ⟨(some 24), none, .indexA 4 (.t 22) (.t 23), [], (.new [])⟩,
   ⟨(some 25), none, .load (some 4) (.t 24), [], (.new [])⟩,
   ⟨(some 7), none, .zbox [.d (.v (.string ⟨#[]⟩)), .d (.v (.string ⟨#[]⟩)), .d (.v (.int .i64 0)), .d (.v (.int .i64 0))], [], (.new [])⟩,
   ⟨none, none, .store 4 (.t 7) (.t 25), [], (.new [])⟩])
 (.seq (.reg [⟨(some 26), none, .mv (.t 1), [], (.new [])⟩,
   ⟨(some 27), none, .load (some 4) (.t 7), [], (.new [])⟩,
   ⟨(some 28), none, .callv (.t 26) [(.t 27)], [], (.new [])⟩,
   ⟨(some 29), none, .not (.t 28), [], (.new [])⟩])
 (.cond (.t 29)
 (.seq (.reg [⟨(some 30), none, .mv (.t 0), [], (.new [])⟩,
   ⟨(some 31), none, .mv (.t 5), [], (.new [])⟩,
   ⟨(some 32), none, .load (some 4) (.t 7), [], (.new [])⟩,
   ⟨(some 33), none, .indexA 4 (.t 30) (.t 31), [], (.new [])⟩,
   ⟨none, none, .store 4 (.t 33) (.t 32), [], (.lone [7, 30])⟩])
 (.reg [⟨(some 34), none, .mv (.t 5), [], (.new [])⟩,
   ⟨(some 35), none, .bin .add (.t 34) (kI 1), [], (.new [])⟩,
   ⟨(some 5), none, .mv (.t 35), [], (.new [])⟩]))
 .skip)))))
 (.reg [⟨(some 20), none, .mv (.t 6), [], (.new [])⟩,
   ⟨(some 21), none, .bin .add (.t 20) (kI 1), [], (.new [])⟩,
   ⟨(some 6), none, .mv (.t 21), [], (.new [])⟩])))))))
 (.seq (.reg [⟨(some 36), none, .mv (.t 0), [], (.new [])⟩,
   ⟨(some 37), none, .mv (.t 5), [], (.new [])⟩,
   ⟨(some 38), none, .slice 4 (.t 36) (some (.t 37)) none none, [], (.new [])⟩,
   ⟨none, none, .clear 4 [.v (.string ⟨#[]⟩), .v (.string ⟨#[]⟩), .v (.int .i64 0), .v (.int .i64 0)] (.t 38), [], (.new [])⟩])
 (.seq (.reg [⟨(some 39), none, .mv (.t 0), [], (.new [])⟩,
   ⟨(some 40), none, .mv (.t 5), [], (.new [])⟩,
   ⟨(some 41), none, .slice 4 (.t 39) none (some (.t 40)) none, [], (.new [])⟩,
   ⟨(some 4), none, .mv (.t 41), [], (.new [])⟩])
 .ret))))))⟩
theorem a25_ok : afn Try.prog 25 = some a25.er := by kernel_rfl
theorem F25_ok {x0 : (List Taint)} {b1 : (List Taint)} {r : (List Taint)} {e0 : Nat} {e2 : Nat} (h : F25 x0 b1 = some r) : CallD Try.prog 25 [.c (.own 0 e0 0 (x0.length) none), .c (.fn 26 [(1, 0)])] [some (.arr e0 4 (x0.map eTaint)), some (.box [.own 2 e2 0 (b1.length) none]), some (.arr e2 4 (b1.map eTaint))] (tupV [.c (.own 0 (e0 + 1) 0 (r.length) none)]) [some (.arr (e0 + 1) 4 (r.map eTaint)), some (.box [.own 2 e2 0 (b1.length) none]), some (.arr e2 4 (b1.map eTaint))] := by
  refine callS a25_ok (by simp [a25]) ?_
  rw [F25] at h
  simp only [a25, VW.down, Nat.reduceEqDiff, reduceCtorEq, Nat.reduceAdd, Nat.reduceLeDiff, Nat.reduceLT, Nat.reduceBEq, Nat.reduceSub, EE.down]
  obtain ⟨t1, ht1, h⟩ := Option.bind_eq_some_iff.1 h
  refine callX_n [0, 1, 2] (F52v1_ok (e0 := e0) (e2 := e2) ht1) ?_ ?_ ?_ ?_ ?_ ?_
  · first | rfl | simp [nrmA, nrmC, nrm, A1.ren, C.ren, rn, List.length_set]
  · simp [liveAll, A1.live, C.live, hp]
  · rfl
  · decide
  · exact ⟨⟨rfl, trivial⟩, ⟨⟨rfl, by simp [Blk.live, C.live, hp]⟩, ⟨⟨rfl, trivial⟩, trivial⟩⟩⟩
  simp only [VW.down, Nat.reduceEqDiff, reduceCtorEq, Nat.reduceAdd, Nat.reduceLeDiff, Nat.reduceLT, Nat.reduceBEq, Nat.reduceSub, EE.down]
  refine condS (fun c2 => ?_) (fun c2 => ?_)
  · have h := (if_pos c2).symm.trans h
    simp only [VW.down, Nat.reduceEqDiff, reduceCtorEq, Nat.reduceAdd, Nat.reduceLeDiff, Nat.reduceLT, Nat.reduceBEq, Nat.reduceSub, EE.down]
    obtain rfl := Option.some.inj h
    exact eF [some 0, some 1, some 2]
  · have h := (if_neg c2).symm.trans h
    simp only [VW.down, Nat.reduceEqDiff, reduceCtorEq, Nat.reduceAdd, Nat.reduceLeDiff, Nat.reduceLT, Nat.reduceBEq, Nat.reduceSub, EE.down]
    obtain ⟨o3, ho, h⟩ := Option.bind_eq_some_iff.1 h
    refine cutS (fun s => s = ⟨[(0, .one (.c (.own 0 e0 0 (o3.1.length) none))), (5, .one (.c (.d (.v (.int .i64 o3.2)))))], [some (.arr e0 4 (o3.1.map eTaint)), some (.box [.own 2 e2 0 (b1.length) none]), some (.arr e2 4 (b1.map eTaint))]⟩) ?_ ?_
    · have h := ho
      clear ho
      simp only [VW.down, Nat.reduceEqDiff, reduceCtorEq, Nat.reduceAdd, Nat.reduceLeDiff, Nat.reduceLT, Nat.reduceBEq, Nat.reduceSub, EE.down]
      refine bL (fun j s => ∃ (o3_0 : List Taint) (o3_1 : Int) (o3_2 : Int), s = ⟨[(0, .one (.c (.own 0 e0 0 (o3_0.length) none))), (1, .one (.c (.fn 26 [(1, 0)]))), (5, .one (.c (.d (.v (.int .i64 o3_1))))), (6, .one (.c (.d (.v (.int .i64 o3_2)))))], [some (.arr e0 4 (o3_0.map eTaint)), some (.box [.own 2 e2 0 (b1.length) none]), some (.arr e2 4 (b1.map eTaint))]⟩ ∧ F25_l3 b1 j o3_0 o3_1 o3_2 = some o3) 1099511627776 [some 0, some 1, some 2] ⟨x0, t1, (IntKind.i64.wrap (t1 + 1)), rfl, h⟩ ?_
      rintro j _ ⟨o3_0, o3_1, o3_2, rfl, h⟩
      cases j with
      | zero => cases (show (none : Option _) = some _ from h)
      | succ j =>
        rw [F25_l3] at h
        simp only [VW.down, Nat.reduceEqDiff, reduceCtorEq, Nat.reduceAdd, Nat.reduceLeDiff, Nat.reduceLT, Nat.reduceBEq, Nat.reduceSub, EE.down]
        refine condS (fun c4 => ?_) (fun c4 => ?_)
        · have h := (if_pos c4).symm.trans h
          simp only [VW.down, Nat.reduceEqDiff, reduceCtorEq, Nat.reduceAdd, Nat.reduceLeDiff, Nat.reduceLT, Nat.reduceBEq, Nat.reduceSub, EE.down]
          obtain ⟨o5, ho, h⟩ := Option.bind_eq_some_iff.1 h
          refine cutS (fun s => s = ⟨[(0, .one (.c (.own 0 e0 0 (o5.1.length) none))), (1, .one (.c (.fn 26 [(1, 0)]))), (5, .one (.c (.d (.v (.int .i64 o5.2))))), (6, .one (.c (.d (.v (.int .i64 o3_2)))))], [some (.arr e0 4 (o5.1.map eTaint)), some (.box [.own 2 e2 0 (b1.length) none]), some (.arr e2 4 (b1.map eTaint))]⟩) ?_ ?_
          · have h := ho
            clear ho
            simp only [VW.down, Nat.reduceEqDiff, reduceCtorEq, Nat.reduceAdd, Nat.reduceLeDiff, Nat.reduceLT, Nat.reduceBEq, Nat.reduceSub, EE.down]
            obtain ⟨y6, hy6, h⟩ := Option.bind_eq_some_iff.1 h
            refine t_idxO (enc := eTaint) (xs := o3_0) rfl rfl rfl (by first | rfl | simp only [List.length_set] | exact (clrL_len (slI_len (by assumption))).symm) hy6 ?_
            simp only [VW.down, Nat.reduceEqDiff, reduceCtorEq, Nat.reduceAdd, Nat.reduceLeDiff, Nat.reduceLT, Nat.reduceBEq, Nat.reduceSub, EE.down]
            refine LdRow.rd (rdI_some hy6).2.1 ?_
            simp only [VW.down, Nat.reduceEqDiff, reduceCtorEq, Nat.reduceAdd, Nat.reduceLeDiff, Nat.reduceLT, Nat.reduceBEq, Nat.reduceSub, EE.down]
            obtain ⟨t7, ht7, h⟩ := Option.bind_eq_some_iff.1 h
            refine callX_n [1, 2] (F26_ok (e1 := e2) ht7) ?_ ?_ ?_ ?_ ?_ ?_
            · first | rfl | simp [nrmA, nrmC, nrm, A1.ren, C.ren, rn, List.length_set]
            · simp [liveAll, A1.live, C.live, hp]
            · rfl
            · decide
            · exact ⟨⟨rfl, by simp [Blk.live, C.live, hp]⟩, ⟨⟨rfl, trivial⟩, trivial⟩⟩
            simp only [VW.down, Nat.reduceEqDiff, reduceCtorEq, Nat.reduceAdd, Nat.reduceLeDiff, Nat.reduceLT, Nat.reduceBEq, Nat.reduceSub, EE.down]
            refine condB (fun c8 => ?_) (fun c8 => ?_)
            · have h := (if_pos c8).symm.trans h
              simp only [VW.down, Nat.reduceEqDiff, reduceCtorEq, Nat.reduceAdd, Nat.reduceLeDiff, Nat.reduceLT, Nat.reduceBEq, Nat.reduceSub, EE.down]
              obtain ⟨y9, hy9, h⟩ := Option.bind_eq_some_iff.1 h
              refine t_idxO (enc := eTaint) (xs := o3_0) rfl rfl rfl (by first | rfl | simp only [List.length_set] | exact (clrL_len (slI_len (by assumption))).symm) hy9 ?_
              simp only [VW.down, Nat.reduceEqDiff, reduceCtorEq, Nat.reduceAdd, Nat.reduceLeDiff, Nat.reduceLT, Nat.reduceBEq, Nat.reduceSub, EE.down]
              refine StRow.rd (y' := y6) (rdI_some hy9).2.1 (by simp [EE.down]) (by first | rfl | (simp only [bor_full']; rfl)) ?_
              simp only [VW.down, Nat.reduceEqDiff, reduceCtorEq, Nat.reduceAdd, Nat.reduceLeDiff, Nat.reduceLT, Nat.reduceBEq, Nat.reduceSub, EE.down]
              obtain rfl := Option.some.inj h
              exact eM [some 0, some 1, some 2] rfl
            · have h := (if_neg c8).symm.trans h
              simp only [VW.down, Nat.reduceEqDiff, reduceCtorEq, Nat.reduceAdd, Nat.reduceLeDiff, Nat.reduceLT, Nat.reduceBEq, Nat.reduceSub, EE.down]
              obtain rfl := Option.some.inj h
              exact eM [some 0, some 1, some 2] rfl
          · rintro _ rfl
            clear ho
            simp only [VW.down, Nat.reduceEqDiff, reduceCtorEq, Nat.reduceAdd, Nat.reduceLeDiff, Nat.reduceLT, Nat.reduceBEq, Nat.reduceSub, EE.down]
            exact eL' j [some 0, some 1, some 2] ⟨o5.1, o5.2, (IntKind.i64.wrap (o3_2 + 1)), rfl, h⟩ (Nat.lt_succ_self _)
        · have h := (if_neg c4).symm.trans h
          simp only [VW.down, Nat.reduceEqDiff, reduceCtorEq, Nat.reduceAdd, Nat.reduceLeDiff, Nat.reduceLT, Nat.reduceBEq, Nat.reduceSub, EE.down]
          obtain rfl := Option.some.inj h
          exact eM [some 0, some 1, some 2] rfl
    · rintro _ rfl
      clear ho
      simp only [VW.down, Nat.reduceEqDiff, reduceCtorEq, Nat.reduceAdd, Nat.reduceLeDiff, Nat.reduceLT, Nat.reduceBEq, Nat.reduceSub, EE.down]
      obtain ⟨s10, hs10, h⟩ := Option.bind_eq_some_iff.1 h
      refine t_sliceO (enc := eTaint) (xs := o3.1) rfl rfl (by first | rfl | simp only [List.length_set] | exact (clrL_len (slI_len (by assumption))).symm) rfl (by first | rfl | simp only [intV, List.length_set]) hs10 ?_
      simp only [VW.down, Nat.reduceEqDiff, reduceCtorEq, Nat.reduceAdd, Nat.reduceLeDiff, Nat.reduceLT, Nat.reduceBEq, Nat.reduceSub, EE.down]
      refine t_clear (enc := eTaint) (xs := o3.1) (z := (⟨(⟨#[]⟩ : ByteArray), (⟨#[]⟩ : ByteArray), 0, 0⟩ : Taint)) rfl rfl rfl (Nat.le_trans (Nat.le_add_right _ _) (slI_len hs10)) ?_
      simp only [VW.down, Nat.reduceEqDiff, reduceCtorEq, Nat.reduceAdd, Nat.reduceLeDiff, Nat.reduceLT, Nat.reduceBEq, Nat.reduceSub, EE.down]
      obtain ⟨s11, hs11, h⟩ := Option.bind_eq_some_iff.1 h
      refine t_sliceO (enc := eTaint) (xs := ((clrL o3.1 o3.2.toNat s10.length ((⟨(⟨#[]⟩ : ByteArray), (⟨#[]⟩ : ByteArray), 0, 0⟩ : Taint))))) rfl rfl (by first | rfl | simp only [List.length_set] | exact (clrL_len (slI_len (by assumption))).symm) rfl (by first | rfl | simp only [intV, List.length_set]) hs11 ?_
      simp only [VW.down, Nat.reduceEqDiff, reduceCtorEq, Nat.reduceAdd, Nat.reduceLeDiff, Nat.reduceLT, Nat.reduceBEq, Nat.reduceSub, EE.down]
      obtain rfl := Option.some.inj h
      exact eF [some 0, some 1, some 2] (hB := by simp only [ZZ.down, Nat.reduceEqDiff, reduceCtorEq, Nat.reduceAdd, Nat.reduceLeDiff, Nat.reduceLT, Nat.reduceBNe, EE.down, slI_pre hs11, slI_frz0 hs11, slI_le0 hs11]) (hs := by simp only [ZZ.down, Nat.reduceEqDiff, reduceCtorEq, Nat.reduceAdd, Nat.reduceLeDiff, Nat.reduceLT, Nat.reduceBNe, EE.down, slI_pre hs11, slI_frz0 hs11, slI_le0 hs11])

/- orchestrator/nodelife.Check -/
def F9_l6 (x0 : Node) (x1 : Int) (x2 : Int) : List Taint → Nat → (List Taint) → Option ((List Taint))
  | [], o6_1, o6_0 => some o6_0
  | xo6 :: xs, o6_1, o6_0 => (((rdI ((lit [(⟨(⟨#[110, 111, 100, 101, 45, 110, 111, 116, 45, 114, 101, 97, 100, 121]⟩ : ByteArray), (⟨#[]⟩ : ByteArray), 1, 0⟩ : Taint), (⟨(⟨#[110, 111, 100, 101, 45, 110, 111, 116, 45, 114, 101, 97, 100, 121]⟩ : ByteArray), (⟨#[]⟩ : ByteArray), 3, 0⟩ : Taint), (⟨(⟨#[108, 111, 119, 45, 109, 101, 109, 111, 114, 121]⟩ : ByteArray), (⟨#[]⟩ : ByteArray), 1, 0⟩ : Taint), (⟨(⟨#[108, 111, 119, 45, 100, 105, 115, 107]⟩ : ByteArray), (⟨#[]⟩ : ByteArray), 1, 0⟩ : Taint)])) ((o6_1 : Int))).bind fun y9 => (((if y9.Key = (⟨#[110, 111, 100, 101, 45, 110, 111, 116, 45, 114, 101, 97, 100, 121]⟩ : ByteArray) then (if (if 1000000000000 < (if x2 < 0 then 0 else x2) then 1000000000000 else (if x2 < 0 then 0 else x2)) < (IntKind.i64.wrap (((if 1000000000000 < (if x1 < 0 then 0 else x1) then 1000000000000 else (if x1 < 0 then 0 else x1))) - ((if 1000000000000 < (if x0.Beat < 0 then 0 else x0.Beat) then 1000000000000 else (if x0.Beat < 0 then 0 else x0.Beat))))) then some true else (if y9.Key = (⟨#[108, 111, 119, 45, 109, 101, 109, 111, 114, 121]⟩ : ByteArray) then (if x0.LowMem = true then some true else (if y9.Key = (⟨#[108, 111, 119, 45, 100, 105, 115, 107]⟩ : ByteArray) then some x0.LowDisk else some false)) else (if y9.Key = (⟨#[108, 111, 119, 45, 100, 105, 115, 107]⟩ : ByteArray) then some x0.LowDisk else some false))) else (if y9.Key = (⟨#[108, 111, 119, 45, 109, 101, 109, 111, 114, 121]⟩ : ByteArray) then (if x0.LowMem = true then some true else (if y9.Key = (⟨#[108, 111, 119, 45, 100, 105, 115, 107]⟩ : ByteArray) then some x0.LowDisk else some false)) else (if y9.Key = (⟨#[108, 111, 119, 45, 100, 105, 115, 107]⟩ : ByteArray) then some x0.LowDisk else some false)))).bind fun o10 => (if o10 = true then (apI o6_0 ([(⟨y9.Key, y9.Value, y9.Effect, (if 1000000000000 < (if x1 < 0 then 0 else x1) then 1000000000000 else (if x1 < 0 then 0 else x1))⟩ : Taint)])).bind fun a22 => some a22 else some o6_0))).bind fun o8 => F9_l6 x0 x1 x2 xs (o6_1 + 1) o8)
def F9_l25 (o6 : (List Taint)) : List Taint → Nat → (List Taint) → Option ((List Taint))
  | [], o25_1, o25_0 => some o25_0
  | xo25 :: xs, o25_1, o25_0 => (((rdI o6 ((o25_1 : Int))).bind fun y28 => (F27 o25_0 y28).bind fun t29 => (if (nb t29) = true then (apI o25_0 ([y28])).bind fun a31 => some a31 else some o25_0)).bind fun o27 => F9_l25 o6 xs (o25_1 + 1) o27)
def F9 (x0 : Node) (x1 : Int) (x2 : Int) : Option ((List Label) × (List Owner) × (List ByteArray) × (List Manager) × (List Taint) × (List Image)) := (F22 x0).bind fun t1 => (F23 x1).bind fun t2 => (F23 x0.Beat).bind fun t3 => (F23 x2).bind fun t4 => (F24).bind fun t5 => (((ck (0 ≤ (((lit [(⟨(⟨#[110, 111, 100, 101, 45, 110, 111, 116, 45, 114, 101, 97, 100, 121]⟩ : ByteArray), (⟨#[]⟩ : ByteArray), 1, 0⟩ : Taint), (⟨(⟨#[110, 111, 100, 101, 45, 110, 111, 116, 45, 114, 101, 97, 100, 121]⟩ : ByteArray), (⟨#[]⟩ : ByteArray), 3, 0⟩ : Taint), (⟨(⟨#[108, 111, 119, 45, 109, 101, 109, 111, 114, 121]⟩ : ByteArray), (⟨#[]⟩ : ByteArray), 1, 0⟩ : Taint), (⟨(⟨#[108, 111, 119, 45, 100, 105, 115, 107]⟩ : ByteArray), (⟨#[]⟩ : ByteArray), 1, 0⟩ : Taint)]))).length ∧ (((lit [(⟨(⟨#[110, 111, 100, 101, 45, 110, 111, 116, 45, 114, 101, 97, 100, 121]⟩ : ByteArray), (⟨#[]⟩ : ByteArray), 1, 0⟩ : Taint), (⟨(⟨#[110, 111, 100, 101, 45, 110, 111, 116, 45, 114, 101, 97, 100, 121]⟩ : ByteArray), (⟨#[]⟩ : ByteArray), 3, 0⟩ : Taint), (⟨(⟨#[108, 111, 119, 45, 109, 101, 109, 111, 114, 121]⟩ : ByteArray), (⟨#[]⟩ : ByteArray), 1, 0⟩ : Taint), (⟨(⟨#[108, 111, 119, 45, 100, 105, 115, 107]⟩ : ByteArray), (⟨#[]⟩ : ByteArray), 1, 0⟩ : Taint)]))).length ≤ 4294967290)).bind fun u23 => F9_l6 x0 x1 x2 (((lit [(⟨(⟨#[110, 111, 100, 101, 45, 110, 111, 116, 45, 114, 101, 97, 100, 121]⟩ : ByteArray), (⟨#[]⟩ : ByteArray), 1, 0⟩ : Taint), (⟨(⟨#[110, 111, 100, 101, 45, 110, 111, 116, 45, 114, 101, 97, 100, 121]⟩ : ByteArray), (⟨#[]⟩ : ByteArray), 3, 0⟩ : Taint), (⟨(⟨#[108, 111, 119, 45, 109, 101, 109, 111, 114, 121]⟩ : ByteArray), (⟨#[]⟩ : ByteArray), 1, 0⟩ : Taint), (⟨(⟨#[108, 111, 119, 45, 100, 105, 115, 107]⟩ : ByteArray), (⟨#[]⟩ : ByteArray), 1, 0⟩ : Taint)]))) 0 ([])).bind fun o6 => (F25 t1.2.2.2.2.1 o6).bind fun t24 => (((ck (0 ≤ o6.length ∧ o6.length ≤ 4294967290)).bind fun u32 => F9_l25 o6 o6 0 t24).bind fun o25 => some ((t1.1, t1.2.1, t1.2.2.1, t1.2.2.2.1, o25, t1.2.2.2.2.2))))
def a9 : AFn := ⟨89, [(.cell 6 (some 24))],
 (.seq (.reg [⟨(some 3), none, .box (.t 0), [], (.new [])⟩,
   ⟨(some 6), none, .zbox [.d (.v (.string ⟨#[]⟩)), .d (.v (.string ⟨#[]⟩)), .d (.v (.string ⟨#[]⟩)), .d (.v (.int .i64 0)), .d (.v (.int .i64 0)), .d (.v (.int .i64 0)), .d (.v (.int .i64 0)), .d (.v (.bool false)), .d (.v (.int .i64 0)), .d (.v (.slice none 0 0)), .d (.v (.slice none 0 0)), .d (.v (.slice none 0 0)), .d (.v (.slice none 0 0)), .d (.v (.int .i64 0)), .d (.v (.int .i64 0)), .d (.v (.int .i64 0)), .d (.v (.int .i64 0)), .d (.v (.bool false)), .d (.v (.slice none 0 0)), .d (.v (.bool false)), .d (.v (.int .i64 0)), .d (.v (.bool false)), .d (.v (.bool false)), .d (.v (.slice none 0 0))], [], (.new [])⟩])
 (.seq (.reg [⟨(some 13), none, .load (some 24) (.t 3), [], (.new [])⟩,
   ⟨(some 14), none, .call 22 [(.t 13)], [], (.new [])⟩,
   ⟨none, none, .store 24 (.t 3) (.t 14), [], (.new [])⟩])
 (.seq (.reg [⟨(some 15), none, .mv (.t 1), [], (.new [])⟩,
   ⟨(some 16), none, .call 23 [(.t 15)], [], (.new [])⟩,
   ⟨(some 1), none, .mv (.t 16), [], (.new [])⟩])
 (.seq (.reg [⟨(some 17), none, .mv (.t 1), [], (.new [])⟩,
   ⟨(some 18), none, .fieldA 20 (.t 3), [], (.new [])⟩,
   ⟨(some 19), none, .load none (.t 18), [], (.new [])⟩,
   ⟨(some 20), none, .call 23 [(.t 19)], [], (.new [])⟩,
   ⟨(some 21), none, .bin .sub (.t 17) (.t 20), [], (.new [])⟩,
   ⟨(some 22), none, .mv (.t 2), [], (.new [])⟩,
   ⟨(some 23), none, .call 23 [(.t 22)], [], (.new [])⟩,
   ⟨(some 24), none, .bin .gtr (.t 21) (.t 23), [], (.new [])⟩,
   ⟨(some 7), none, .mv (.t 24), [], (.new [])⟩])
 (.seq (.reg [⟨(some 8), none, .zbox [.d (.v (.slice none 0 0))], [], (.lone [])⟩])
 (.seq (.seq (.reg [⟨(some 25), none, .call 24 [], [], (.new [])⟩,
   ⟨(some 26), none, .len (.t 25), [], (.new [])⟩,
   ⟨(some 27), none, .mv (kI 0), [], (.new [])⟩])
 (.sem (.block 0 (.loop (.seq (.reg [⟨(some 28), none, .bin .lss (.t 27) (.t 26), [], (.new [])⟩])
 (.seq (.cond (.t 28)
 .skip
 (.exit 0))
 (.seq (.sem (.block 1 (.seq (.reg [⟨(some 29), none, .indexA 4 (.t 25) (.t 27), [], (.new [])⟩,
   ⟨(some 30), none, .load (some 4) (.t 29), [], (.new [])⟩,
   ⟨(some 10), none, .zbox [.d (.v (.string ⟨#[]⟩)), .d (.v (.string ⟨#[]⟩)), .d (.v (.int .i64 0)), .d (.v (.int .i64 0))], [], (.new [])⟩,
   ⟨none, none, .store 4 (.t 10) (.t 30), [], (.new [])⟩])
 (.seq (.sem (.reg [⟨(some 31), none, .fieldA 0 (.t 10), [], (.new [])⟩,
   ⟨(some 32), none, .load none (.t 31), [], (.new [])⟩,
   ⟨(some 33), none, .bin .eql (.t 32) (kS ⟨#[110, 111, 100, 101, 45, 110, 111, 116, 45, 114, 101, 97, 100, 121]⟩), [], (.new [])⟩,
   ⟨(some 34), none, .mv (.t 33), [], (.new [])⟩,
   ⟨(some 35), (some (34, true)), .mv (.t 7), [], (.new [])⟩,
   ⟨(some 36), none, .pick (.t 34) (.t 35) (kB false), [], (.new [])⟩,
   ⟨(some 37), none, .mv (.t 36), [], (.new [])⟩,
   ⟨(some 38), (some (37, false)), .fieldA 0 (.t 10), [], (.new [])⟩,
   ⟨(some 39), (some (37, false)), .load none (.t 38), [], (.new [])⟩,
   ⟨(some 40), (some (37, false)), .bin .eql (.t 39) (kS ⟨#[108, 111, 119, 45, 109, 101, 109, 111, 114, 121]⟩), [], (.new [])⟩,
   ⟨(some 41), (some (37, false)), .mv (.t 40), [], (.new [])⟩,
   ⟨(some 42), (some (41, true)), .fieldA 21 (.t 3), [], (.new [])⟩,
   ⟨(some 43), (some (41, true)), .load none (.t 42), [], (.new [])⟩,
   ⟨(some 44), (some (37, false)), .pick (.t 41) (.t 43) (kB false), [], (.new [])⟩,
   ⟨(some 45), none, .pick (.t 37) (kB true) (.t 44), [], (.new [])⟩,
   ⟨(some 46), none, .mv (.t 45), [], (.new [])⟩,
   ⟨(some 47), (some (46, false)), .fieldA 0 (.t 10), [], (.new [])⟩,
   ⟨(some 48), (some (46, false)), .load none (.t 47), [], (.new [])⟩,
   ⟨(some 49), (some (46, false)), .bin .eql (.t 48) (kS ⟨#[108, 111, 119, 45, 100, 105, 115, 107]⟩), [], (.new [])⟩,
   ⟨(some 50), (some (46, false)), .mv (.t 49), [], (.new [])⟩,
   ⟨(some 51), (some (50, true)), .fieldA 22 (.t 3), [], (.new [])⟩,
   ⟨(some 52), (some (50, true)), .load none (.t 51), [], (.new [])⟩,
   ⟨(some 53), (some (46, false)), .pick (.t 50) (.t 52) (kB false), [], (.new [])⟩,
   ⟨(some 54), none, .pick (.t 46) (kB true) (.t 53), [], (.new [])⟩]))
 (.cond (.t 54)
 (.seq (.reg [⟨(some 55), none, .mv (.t 1), [], (.new [])⟩,
   ⟨(some 56), none, .fieldA 3 (.t 10), [], (.new [])⟩,
   ⟨none, none, .store 1 (.t 56) (.t 55), [], (.lone [10])⟩])
 (.reg [⟨(some 57), none, .load none (.t 8), [], (.new [])⟩,
   ⟨(some 58), none, .load (some 4) (.t 10), [], (.new [])⟩,
   ⟨(some 59), none, .bslice 4 [(.t 58)], [], (.new [])⟩,
   ⟨(some 60), none, .app 4 48 (.t 57) (.t 59), [], (.new [])⟩,
   ⟨none, none, .store 1 (.t 8) (.t 60), [], (.new [])⟩]))
 .skip)))))
 (.reg [⟨(some 61), none, .bin .add (.t 27) (kI 1), [], (.new [])⟩,
   ⟨(some 27), none, .mv (.t 61), [], (.new [])⟩]))))))))
 (.seq (.reg [⟨(some 62), none, .mv (.t 7), [], (.new [])⟩,
   ⟨(some 63), none, .not (.t 62), [], (.new [])⟩,
   ⟨(some 64), none, .fieldA 19 (.t 3), [], (.new [])⟩,
   ⟨none, none, .store 1 (.t 64) (.t 63), [], (.lone [3])⟩])
 (.seq (.reg [⟨(some 65), none, .fieldA 18 (.t 3), [], (.new [])⟩,
   ⟨(some 66), none, .load none (.t 65), [], (.new [])⟩,
   ⟨(some 67), none, .fn 26 [(.t 8)], [], (.new [])⟩,
   ⟨(some 68), none, .call 25 [(.t 66), (.t 67)], [], (.new [])⟩,
   ⟨(some 69), none, .fieldA 18 (.t 3), [], (.new [])⟩,
   ⟨none, none, .store 1 (.t 69) (.t 68), [], (.new [])⟩])
 (.seq (.seq (.reg [⟨(some 70), none, .load none (.t 8), [], (.new [])⟩,
   ⟨(some 71), none, .len (.t 70), [], (.new [])⟩,
   ⟨(some 72), none, .mv (kI 0), [], (.new [])⟩])
 (.sem (.block 2 (.loop (.seq (.reg [⟨(some 73), none, .bin .lss (.t 72) (.t 71), [], (.new [])⟩])
 (.seq (.cond (.t 73)
 .skip
 (.exit 2))
 (.seq (.sem (.block 3 (.seq (.reg [⟨(some 74), none, .indexA 4 (.t 70) (.t 72), [], (.new [])⟩,
   ⟨(some 75), none, .load (some 4) (.t 74), [], (.new [])⟩,
   ⟨(some 12), none, .zbox [.d (.v (.string ⟨#[]⟩)), .d (.v (.string ⟨#[]⟩)), .d (.v (.int .i64 0)), .d (.v (.int .i64 0))], [], (.new [])⟩,
   ⟨none, none, .store 4 (.t 12) (.t 75), [], (.new [])⟩])
 (.seq (.reg [⟨(some 76), none, .fieldA 18 (.t 3), [], (.new [])⟩,
   ⟨(some 77), none, .load none (.t 76), [], (.new [])⟩,
   ⟨(some 78), none, .load (some 4) (.t 12), [], (.new [])⟩,
   ⟨(some 79), none, .call 27 [(.t 77), (.t 78)], [], (.new [])⟩,
   ⟨(some 80), none, .not (.t 79), [], (.new [])⟩])
 (.cond (.t 80)
 (.reg [⟨(some 81), none, .fieldA 18 (.t 3), [], (.new [])⟩,
   ⟨(some 82), none, .load none (.t 81), [], (.new [])⟩,
   ⟨(some 83), none, .load (some 4) (.t 12), [], (.new [])⟩,
   ⟨(some 84), none, .bslice 4 [(.t 83)], [], (.new [])⟩,
   ⟨(some 85), none, .app 4 48 (.t 82) (.t 84), [], (.new [])⟩,
   ⟨(some 86), none, .fieldA 18 (.t 3), [], (.new [])⟩,
   ⟨none, none, .store 1 (.t 86) (.t 85), [], (.new [])⟩])
 .skip)))))
 (.reg [⟨(some 87), none, .bin .add (.t 72) (kI 1), [], (.new [])⟩,
   ⟨(some 72), none, .mv (.t 87), [], (.new [])⟩]))))))))
 (.seq (.reg [⟨(some 88), none, .load (some 24) (.t 3), [], (.new [])⟩,
   ⟨none, none, .store 24 (.t 6) (.t 88), [], (.lone [3])⟩])
 .ret))))))))))⟩
theorem a9_ok : afn Try.prog 9 = some a9.er := by kernel_rfl
theorem F9_ok {x0 : Node} {x1 : Int} {x2 : Int} {r : (List Label) × (List Owner) × (List ByteArray) × (List Manager) × (List Taint) × (List Image)} (h : F9 x0 x1 x2 = some r) : CallD Try.prog 9 [.agg [.d (.v (.string x0.Meta.Kind)), .d (.v (.string x0.Meta.Namespace)), .d (.v (.string x0.Meta.Name)), .d (.v (.int .i64 x0.Meta.Uid)), .d (.v (.int .i64 x0.Meta.Version)), .d (.v (.int .i64 x0.Meta.Generation)), .d (.v (.int .i64 x0.Meta.Created)), .d (.v (.bool x0.Meta.Deleting)), .d (.v (.int .i64 x0.Meta.DeleteAt)), .d (.sl (x0.Meta.Labels.map eLabel)), .d (.sl (x0.Meta.Owners.map eOwner)), .d (.sl (x0.Meta.Finalizers.map eS)), .d (.sl (x0.Meta.Managers.map eManager)), .d (.v (.int .i64 x0.Capacity.CPU)), .d (.v (.int .i64 x0.Capacity.Memory)), .d (.v (.int .i64 x0.Capacity.Disk)), .d (.v (.int .i64 x0.MaxPods)), .d (.v (.bool x0.Cordoned)), .d (.sl (x0.Taints.map eTaint)), .d (.v (.bool x0.Ready)), .d (.v (.int .i64 x0.Beat)), .d (.v (.bool x0.LowMem)), .d (.v (.bool x0.LowDisk)), .d (.sl (x0.Images.map eImage))], .c (.d (.v (.int .i64 x1))), .c (.d (.v (.int .i64 x2)))] [] (tupV [.agg [.d (.v (.string x0.Meta.Kind)), .d (.v (.string x0.Meta.Namespace)), .d (.v (.string x0.Meta.Name)), .d (.v (.int .i64 x0.Meta.Uid)), .d (.v (.int .i64 x0.Meta.Version)), .d (.v (.int .i64 x0.Meta.Generation)), .d (.v (.int .i64 x0.Meta.Created)), .d (.v (.bool x0.Meta.Deleting)), .d (.v (.int .i64 x0.Meta.DeleteAt)), .own 0 0 0 (r.1.length) none, .own 1 0 0 (r.2.1.length) none, .own 2 0 0 (r.2.2.1.length) none, .own 3 0 0 (r.2.2.2.1.length) none, .d (.v (.int .i64 x0.Capacity.CPU)), .d (.v (.int .i64 x0.Capacity.Memory)), .d (.v (.int .i64 x0.Capacity.Disk)), .d (.v (.int .i64 x0.MaxPods)), .d (.v (.bool x0.Cordoned)), .own 4 0 0 (r.2.2.2.2.1.length) none, .d (.v (.bool (decide (¬ ((if 1000000000000 < (if x2 < 0 then 0 else x2) then 1000000000000 else (if x2 < 0 then 0 else x2)) < (IntKind.i64.wrap (((if 1000000000000 < (if x1 < 0 then 0 else x1) then 1000000000000 else (if x1 < 0 then 0 else x1))) - ((if 1000000000000 < (if x0.Beat < 0 then 0 else x0.Beat) then 1000000000000 else (if x0.Beat < 0 then 0 else x0.Beat)))))))))), .d (.v (.int .i64 x0.Beat)), .d (.v (.bool x0.LowMem)), .d (.v (.bool x0.LowDisk)), .own 5 0 0 (r.2.2.2.2.2.length) none]]) [some (.arr 0 2 (r.1.map eLabel)), some (.arr 0 5 (r.2.1.map eOwner)), some (.arr 0 1 (r.2.2.1.map eS)), some (.arr 0 2 (r.2.2.2.1.map eManager)), some (.arr 0 4 (r.2.2.2.2.1.map eTaint)), some (.arr 0 3 (r.2.2.2.2.2.map eImage))] := by
  refine callS a9_ok (by simp [a9]) ?_
  rw [F9] at h
  simp only [a9, VW.down, Nat.reduceEqDiff, reduceCtorEq, Nat.reduceAdd, Nat.reduceLeDiff, Nat.reduceLT, Nat.reduceBEq, Nat.reduceSub, EE.down]
  obtain ⟨t1, ht1, h⟩ := Option.bind_eq_some_iff.1 h
  refine callX_n [] (F22_ok ht1) ?_ ?_ ?_ ?_ ?_ ?_
  · first | rfl | simp [nrmA, nrmC, nrm, A1.ren, C.ren, rn, List.length_set]
  · simp [liveAll, A1.live, C.live]
  · rfl
  · decide
  · exact trivial
  simp only [VW.down, Nat.reduceEqDiff, reduceCtorEq, Nat.reduceAdd, Nat.reduceLeDiff, Nat.reduceLT, Nat.reduceBEq, Nat.reduceSub, EE.down]
  obtain ⟨t2, ht2, h⟩ := Option.bind_eq_some_iff.1 h
  refine callX_n [] (F23_ok ht2) ?_ ?_ ?_ ?_ ?_ ?_
  · first | rfl | simp [nrmA, nrmC, nrm, A1.ren, C.ren, rn, List.length_set]
  · simp [liveAll, A1.live, C.live]
  · rfl
  · decide
  · exact trivial
  simp only [VW.down, Nat.reduceEqDiff, reduceCtorEq, Nat.reduceAdd, Nat.reduceLeDiff, Nat.reduceLT, Nat.reduceBEq, Nat.reduceSub, EE.down]
  obtain ⟨t3, ht3, h⟩ := Option.bind_eq_some_iff.1 h
  refine callX_n [] (F23_ok ht3) ?_ ?_ ?_ ?_ ?_ ?_
  · first | rfl | simp [nrmA, nrmC, nrm, A1.ren, C.ren, rn, List.length_set]
  · simp [liveAll, A1.live, C.live]
  · rfl
  · decide
  · exact trivial
  simp only [VW.down, Nat.reduceEqDiff, reduceCtorEq, Nat.reduceAdd, Nat.reduceLeDiff, Nat.reduceLT, Nat.reduceBEq, Nat.reduceSub, EE.down]
  obtain ⟨t4, ht4, h⟩ := Option.bind_eq_some_iff.1 h
  refine callX_n [] (F23_ok ht4) ?_ ?_ ?_ ?_ ?_ ?_
  · first | rfl | simp [nrmA, nrmC, nrm, A1.ren, C.ren, rn, List.length_set]
  · simp [liveAll, A1.live, C.live]
  · rfl
  · decide
  · exact trivial
  simp only [VW.down, Nat.reduceEqDiff, reduceCtorEq, Nat.reduceAdd, Nat.reduceLeDiff, Nat.reduceLT, Nat.reduceBEq, Nat.reduceSub, EE.down]
  obtain ⟨t5, ht5, h⟩ := Option.bind_eq_some_iff.1 h
  refine callX_n [] (F24_ok ht5) ?_ ?_ ?_ ?_ ?_ ?_
  · first | rfl | simp [nrmA, nrmC, nrm, A1.ren, C.ren, rn, List.length_set]
  · simp [liveAll, A1.live, C.live]
  · rfl
  · decide
  · exact trivial
  simp only [VW.down, Nat.reduceEqDiff, reduceCtorEq, Nat.reduceAdd, Nat.reduceLeDiff, Nat.reduceLT, Nat.reduceBEq, Nat.reduceSub, EE.down]
  obtain ⟨o6, ho, h⟩ := Option.bind_eq_some_iff.1 h
  refine cutS (fun s => s = ⟨[(3, .one (.c (.pt 0 0))), (6, .one (.c (.pt 7 0))), (7, .one (.c (.d (.v (.bool (decide ((if 1000000000000 < (if x2 < 0 then 0 else x2) then 1000000000000 else (if x2 < 0 then 0 else x2)) < (IntKind.i64.wrap (((if 1000000000000 < (if x1 < 0 then 0 else x1) then 1000000000000 else (if x1 < 0 then 0 else x1))) - ((if 1000000000000 < (if x0.Beat < 0 then 0 else x0.Beat) then 1000000000000 else (if x0.Beat < 0 then 0 else x0.Beat)))))))))))), (8, .one (.c (.pt 8 0)))], [some (.box [.d (.v (.string x0.Meta.Kind)), .d (.v (.string x0.Meta.Namespace)), .d (.v (.string x0.Meta.Name)), .d (.v (.int .i64 x0.Meta.Uid)), .d (.v (.int .i64 x0.Meta.Version)), .d (.v (.int .i64 x0.Meta.Generation)), .d (.v (.int .i64 x0.Meta.Created)), .d (.v (.bool x0.Meta.Deleting)), .d (.v (.int .i64 x0.Meta.DeleteAt)), .own 1 0 0 (t1.1.length) none, .own 2 0 0 (t1.2.1.length) none, .own 3 0 0 (t1.2.2.1.length) none, .own 4 0 0 (t1.2.2.2.1.length) none, .d (.v (.int .i64 x0.Capacity.CPU)), .d (.v (.int .i64 x0.Capacity.Memory)), .d (.v (.int .i64 x0.Capacity.Disk)), .d (.v (.int .i64 x0.MaxPods)), .d (.v (.bool x0.Cordoned)), .own 5 0 0 (t1.2.2.2.2.1.length) none, .d (.v (.bool x0.Ready)), .d (.v (.int .i64 x0.Beat)), .d (.v (.bool x0.LowMem)), .d (.v (.bool x0.LowDisk)), .own 6 0 0 (t1.2.2.2.2.2.length) none]), some (.arr 0 2 (t1.1.map eLabel)), some (.arr 0 5 (t1.2.1.map eOwner)), some (.arr 0 1 (t1.2.2.1.map eS)), some (.arr 0 2 (t1.2.2.2.1.map eManager)), some (.arr 0 4 (t1.2.2.2.2.1.map eTaint)), some (.arr 0 3 (t1.2.2.2.2.2.map eImage)), some (.box [.d (.v (.string ((⟨#[]⟩ : ByteArray)))), .d (.v (.string ((⟨#[]⟩ : ByteArray)))), .d (.v (.string ((⟨#[]⟩ : ByteArray)))), .d (.v (.int .i64 0)), .d (.v (.int .i64 0)), .d (.v (.int .i64 0)), .d (.v (.int .i64 0)), .d (.v (.bool false)), .d (.v (.int .i64 0)), .d (.v (.slice none 0 0)), .d (.v (.slice none 0 0)), .d (.v (.slice none 0 0)), .d (.v (.slice none 0 0)), .d (.v (.int .i64 0)), .d (.v (.int .i64 0)), .d (.v (.int .i64 0)), .d (.v (.int .i64 0)), .d (.v (.bool false)), .d (.v (.slice none 0 0)), .d (.v (.bool false)), .d (.v (.int .i64 0)), .d (.v (.bool false)), .d (.v (.bool false)), .d (.v (.slice none 0 0))]), some (.box [.own 9 0 0 (o6.length) none]), some (.arr 0 4 (o6.map eTaint))]⟩) ?_ ?_
  · have h := ho
    clear ho
    obtain ⟨_, hk, h⟩ := Option.bind_eq_some_iff.1 h
    have hk := ck_some hk
    simp only [VW.down, Nat.reduceEqDiff, reduceCtorEq, Nat.reduceAdd, Nat.reduceLeDiff, Nat.reduceLT, Nat.reduceBEq, Nat.reduceSub, EE.down]
    refine bL (fun j s => ∃ (o6_1 : Nat) (o6_0 : List Taint), (o6_1 ≤ (((lit [(⟨(⟨#[110, 111, 100, 101, 45, 110, 111, 116, 45, 114, 101, 97, 100, 121]⟩ : ByteArray), (⟨#[]⟩ : ByteArray), 1, 0⟩ : Taint), (⟨(⟨#[110, 111, 100, 101, 45, 110, 111, 116, 45, 114, 101, 97, 100, 121]⟩ : ByteArray), (⟨#[]⟩ : ByteArray), 3, 0⟩ : Taint), (⟨(⟨#[108, 111, 119, 45, 109, 101, 109, 111, 114, 121]⟩ : ByteArray), (⟨#[]⟩ : ByteArray), 1, 0⟩ : Taint), (⟨(⟨#[108, 111, 119, 45, 100, 105, 115, 107]⟩ : ByteArray), (⟨#[]⟩ : ByteArray), 1, 0⟩ : Taint)]))).length ∧ j = (((lit [(⟨(⟨#[110, 111, 100, 101, 45, 110, 111, 116, 45, 114, 101, 97, 100, 121]⟩ : ByteArray), (⟨#[]⟩ : ByteArray), 1, 0⟩ : Taint), (⟨(⟨#[110, 111, 100, 101, 45, 110, 111, 116, 45, 114, 101, 97, 100, 121]⟩ : ByteArray), (⟨#[]⟩ : ByteArray), 3, 0⟩ : Taint), (⟨(⟨#[108, 111, 119, 45, 109, 101, 109, 111, 114, 121]⟩ : ByteArray), (⟨#[]⟩ : ByteArray), 1, 0⟩ : Taint), (⟨(⟨#[108, 111, 119, 45, 100, 105, 115, 107]⟩ : ByteArray), (⟨#[]⟩ : ByteArray), 1, 0⟩ : Taint)]))).length - o6_1) ∧ s = ⟨[(1, .one (.c (.d (.v (.int .i64 ((if 1000000000000 < (if x1 < 0 then 0 else x1) then 1000000000000 else (if x1 < 0 then 0 else x1)))))))), (3, .one (.c (.pt 0 0))), (6, .one (.c (.pt 7 0))), (7, .one (.c (.d (.v (.bool (decide ((if 1000000000000 < (if x2 < 0 then 0 else x2) then 1000000000000 else (if x2 < 0 then 0 else x2)) < (IntKind.i64.wrap (((if 1000000000000 < (if x1 < 0 then 0 else x1) then 1000000000000 else (if x1 < 0 then 0 else x1))) - ((if 1000000000000 < (if x0.Beat < 0 then 0 else x0.Beat) then 1000000000000 else (if x0.Beat < 0 then 0 else x0.Beat)))))))))))), (8, .one (.c (.pt 8 0))), (25, .one (.c (.own 10 0 0 (((lit [(⟨(⟨#[110, 111, 100, 101, 45, 110, 111, 116, 45, 114, 101, 97, 100, 121]⟩ : ByteArray), (⟨#[]⟩ : ByteArray), 1, 0⟩ : Taint), (⟨(⟨#[110, 111, 100, 101, 45, 110, 111, 116, 45, 114, 101, 97, 100, 121]⟩ : ByteArray), (⟨#[]⟩ : ByteArray), 3, 0⟩ : Taint), (⟨(⟨#[108, 111, 119, 45, 109, 101, 109, 111, 114, 121]⟩ : ByteArray), (⟨#[]⟩ : ByteArray), 1, 0⟩ : Taint), (⟨(⟨#[108, 111, 119, 45, 100, 105, 115, 107]⟩ : ByteArray), (⟨#[]⟩ : ByteArray), 1, 0⟩ : Taint)])).length) none))), (26, .one (.c (.d (.v (.int .i64 ((((lit [(⟨(⟨#[110, 111, 100, 101, 45, 110, 111, 116, 45, 114, 101, 97, 100, 121]⟩ : ByteArray), (⟨#[]⟩ : ByteArray), 1, 0⟩ : Taint), (⟨(⟨#[110, 111, 100, 101, 45, 110, 111, 116, 45, 114, 101, 97, 100, 121]⟩ : ByteArray), (⟨#[]⟩ : ByteArray), 3, 0⟩ : Taint), (⟨(⟨#[108, 111, 119, 45, 109, 101, 109, 111, 114, 121]⟩ : ByteArray), (⟨#[]⟩ : ByteArray), 1, 0⟩ : Taint), (⟨(⟨#[108, 111, 119, 45, 100, 105, 115, 107]⟩ : ByteArray), (⟨#[]⟩ : ByteArray), 1, 0⟩ : Taint)])).length : Int))))))), (27, .one (.c (.d (.v (.int .i64 ((o6_1 : Int)))))))], [some (.box [.d (.v (.string x0.Meta.Kind)), .d (.v (.string x0.Meta.Namespace)), .d (.v (.string x0.Meta.Name)), .d (.v (.int .i64 x0.Meta.Uid)), .d (.v (.int .i64 x0.Meta.Version)), .d (.v (.int .i64 x0.Meta.Generation)), .d (.v (.int .i64 x0.Meta.Created)), .d (.v (.bool x0.Meta.Deleting)), .d (.v (.int .i64 x0.Meta.DeleteAt)), .own 1 0 0 (t1.1.length) none, .own 2 0 0 (t1.2.1.length) none, .own 3 0 0 (t1.2.2.1.length) none, .own 4 0 0 (t1.2.2.2.1.length) none, .d (.v (.int .i64 x0.Capacity.CPU)), .d (.v (.int .i64 x0.Capacity.Memory)), .d (.v (.int .i64 x0.Capacity.Disk)), .d (.v (.int .i64 x0.MaxPods)), .d (.v (.bool x0.Cordoned)), .own 5 0 0 (t1.2.2.2.2.1.length) none, .d (.v (.bool x0.Ready)), .d (.v (.int .i64 x0.Beat)), .d (.v (.bool x0.LowMem)), .d (.v (.bool x0.LowDisk)), .own 6 0 0 (t1.2.2.2.2.2.length) none]), some (.arr 0 2 (t1.1.map eLabel)), some (.arr 0 5 (t1.2.1.map eOwner)), some (.arr 0 1 (t1.2.2.1.map eS)), some (.arr 0 2 (t1.2.2.2.1.map eManager)), some (.arr 0 4 (t1.2.2.2.2.1.map eTaint)), some (.arr 0 3 (t1.2.2.2.2.2.map eImage)), some (.box [.d (.v (.string ((⟨#[]⟩ : ByteArray)))), .d (.v (.string ((⟨#[]⟩ : ByteArray)))), .d (.v (.string ((⟨#[]⟩ : ByteArray)))), .d (.v (.int .i64 0)), .d (.v (.int .i64 0)), .d (.v (.int .i64 0)), .d (.v (.int .i64 0)), .d (.v (.bool false)), .d (.v (.int .i64 0)), .d (.v (.slice none 0 0)), .d (.v (.slice none 0 0)), .d (.v (.slice none 0 0)), .d (.v (.slice none 0 0)), .d (.v (.int .i64 0)), .d (.v (.int .i64 0)), .d (.v (.int .i64 0)), .d (.v (.int .i64 0)), .d (.v (.bool false)), .d (.v (.slice none 0 0)), .d (.v (.bool false)), .d (.v (.int .i64 0)), .d (.v (.bool false)), .d (.v (.bool false)), .d (.v (.slice none 0 0))]), some (.box [.own 9 0 0 (o6_0.length) none]), some (.arr 0 4 (o6_0.map eTaint)), some (.arr 0 4 (((lit [(⟨(⟨#[110, 111, 100, 101, 45, 110, 111, 116, 45, 114, 101, 97, 100, 121]⟩ : ByteArray), (⟨#[]⟩ : ByteArray), 1, 0⟩ : Taint), (⟨(⟨#[110, 111, 100, 101, 45, 110, 111, 116, 45, 114, 101, 97, 100, 121]⟩ : ByteArray), (⟨#[]⟩ : ByteArray), 3, 0⟩ : Taint), (⟨(⟨#[108, 111, 119, 45, 109, 101, 109, 111, 114, 121]⟩ : ByteArray), (⟨#[]⟩ : ByteArray), 1, 0⟩ : Taint), (⟨(⟨#[108, 111, 119, 45, 100, 105, 115, 107]⟩ : ByteArray), (⟨#[]⟩ : ByteArray), 1, 0⟩ : Taint)])).map eTaint))]⟩ ∧ F9_l6 x0 x1 x2 ((((lit [(⟨(⟨#[110, 111, 100, 101, 45, 110, 111, 116, 45, 114, 101, 97, 100, 121]⟩ : ByteArray), (⟨#[]⟩ : ByteArray), 1, 0⟩ : Taint), (⟨(⟨#[110, 111, 100, 101, 45, 110, 111, 116, 45, 114, 101, 97, 100, 121]⟩ : ByteArray), (⟨#[]⟩ : ByteArray), 3, 0⟩ : Taint), (⟨(⟨#[108, 111, 119, 45, 109, 101, 109, 111, 114, 121]⟩ : ByteArray), (⟨#[]⟩ : ByteArray), 1, 0⟩ : Taint), (⟨(⟨#[108, 111, 119, 45, 100, 105, 115, 107]⟩ : ByteArray), (⟨#[]⟩ : ByteArray), 1, 0⟩ : Taint)]))).drop o6_1) o6_1 o6_0 = some o6) ((((lit [(⟨(⟨#[110, 111, 100, 101, 45, 110, 111, 116, 45, 114, 101, 97, 100, 121]⟩ : ByteArray), (⟨#[]⟩ : ByteArray), 1, 0⟩ : Taint), (⟨(⟨#[110, 111, 100, 101, 45, 110, 111, 116, 45, 114, 101, 97, 100, 121]⟩ : ByteArray), (⟨#[]⟩ : ByteArray), 3, 0⟩ : Taint), (⟨(⟨#[108, 111, 119, 45, 109, 101, 109, 111, 114, 121]⟩ : ByteArray), (⟨#[]⟩ : ByteArray), 1, 0⟩ : Taint), (⟨(⟨#[108, 111, 119, 45, 100, 105, 115, 107]⟩ : ByteArray), (⟨#[]⟩ : ByteArray), 1, 0⟩ : Taint)]))).length - 0) [some 0, some 2, some 3, some 4, some 5, some 6, some 7, some 1, some 8, none, some 9] ⟨0, [], ⟨hk.1, rfl⟩, rfl, h⟩ ?_
    rintro _ _ ⟨o6_1, o6_0, ⟨hi, rfl⟩, rfl, h⟩
    simp only [VW.down, Nat.reduceEqDiff, reduceCtorEq, Nat.reduceAdd, Nat.reduceLeDiff, Nat.reduceLT, Nat.reduceBEq, Nat.reduceSub, EE.down]
    refine condS (fun c7 => ?_) (fun c7 => ?_)
    · obtain ⟨xo6, hxo6, hd⟩ := countY (show (o6_1 : Int) < ((((lit [(⟨(⟨#[110, 111, 100, 101, 45, 110, 111, 116, 45, 114, 101, 97, 100, 121]⟩ : ByteArray), (⟨#[]⟩ : ByteArray), 1, 0⟩ : Taint), (⟨(⟨#[110, 111, 100, 101, 45, 110, 111, 116, 45, 114, 101, 97, 100, 121]⟩ : ByteArray), (⟨#[]⟩ : ByteArray), 3, 0⟩ : Taint), (⟨(⟨#[108, 111, 119, 45, 109, 101, 109, 111, 114, 121]⟩ : ByteArray), (⟨#[]⟩ : ByteArray), 1, 0⟩ : Taint), (⟨(⟨#[108, 111, 119, 45, 100, 105, 115, 107]⟩ : ByteArray), (⟨#[]⟩ : ByteArray), 1, 0⟩ : Taint)]))).length : Int) from c7)
      rw [hd, F9_l6] at h
      simp only [VW.down, Nat.reduceEqDiff, reduceCtorEq, Nat.reduceAdd, Nat.reduceLeDiff, Nat.reduceLT, Nat.reduceBEq, Nat.reduceSub, EE.down]
      obtain ⟨o8, ho, h⟩ := Option.bind_eq_some_iff.1 h
      refine cutS (fun s => s = ⟨[(1, .one (.c (.d (.v (.int .i64 ((if 1000000000000 < (if x1 < 0 then 0 else x1) then 1000000000000 else (if x1 < 0 then 0 else x1)))))))), (3, .one (.c (.pt 0 0))), (6, .one (.c (.pt 7 0))), (7, .one (.c (.d (.v (.bool (decide ((if 1000000000000 < (if x2 < 0 then 0 else x2) then 1000000000000 else (if x2 < 0 then 0 else x2)) < (IntKind.i64.wrap (((if 1000000000000 < (if x1 < 0 then 0 else x1) then 1000000000000 else (if x1 < 0 then 0 else x1))) - ((if 1000000000000 < (if x0.Beat < 0 then 0 else x0.Beat) then 1000000000000 else (if x0.Beat < 0 then 0 else x0.Beat)))))))))))), (8, .one (.c (.pt 8 0))), (25, .one (.c (.own 10 0 0 (((lit [(⟨(⟨#[110, 111, 100, 101, 45, 110, 111, 116, 45, 114, 101, 97, 100, 121]⟩ : ByteArray), (⟨#[]⟩ : ByteArray), 1, 0⟩ : Taint), (⟨(⟨#[110, 111, 100, 101, 45, 110, 111, 116, 45, 114, 101, 97, 100, 121]⟩ : ByteArray), (⟨#[]⟩ : ByteArray), 3, 0⟩ : Taint), (⟨(⟨#[108, 111, 119, 45, 109, 101, 109, 111, 114, 121]⟩ : ByteArray), (⟨#[]⟩ : ByteArray), 1, 0⟩ : Taint), (⟨(⟨#[108, 111, 119, 45, 100, 105, 115, 107]⟩ : ByteArray), (⟨#[]⟩ : ByteArray), 1, 0⟩ : Taint)])).length) none))), (26, .one (.c (.d (.v (.int .i64 ((((lit [(⟨(⟨#[110, 111, 100, 101, 45, 110, 111, 116, 45, 114, 101, 97, 100, 121]⟩ : ByteArray), (⟨#[]⟩ : ByteArray), 1, 0⟩ : Taint), (⟨(⟨#[110, 111, 100, 101, 45, 110, 111, 116, 45, 114, 101, 97, 100, 121]⟩ : ByteArray), (⟨#[]⟩ : ByteArray), 3, 0⟩ : Taint), (⟨(⟨#[108, 111, 119, 45, 109, 101, 109, 111, 114, 121]⟩ : ByteArray), (⟨#[]⟩ : ByteArray), 1, 0⟩ : Taint), (⟨(⟨#[108, 111, 119, 45, 100, 105, 115, 107]⟩ : ByteArray), (⟨#[]⟩ : ByteArray), 1, 0⟩ : Taint)])).length : Int))))))), (27, .one (.c (.d (.v (.int .i64 ((o6_1 : Int)))))))], [some (.box [.d (.v (.string x0.Meta.Kind)), .d (.v (.string x0.Meta.Namespace)), .d (.v (.string x0.Meta.Name)), .d (.v (.int .i64 x0.Meta.Uid)), .d (.v (.int .i64 x0.Meta.Version)), .d (.v (.int .i64 x0.Meta.Generation)), .d (.v (.int .i64 x0.Meta.Created)), .d (.v (.bool x0.Meta.Deleting)), .d (.v (.int .i64 x0.Meta.DeleteAt)), .own 1 0 0 (t1.1.length) none, .own 2 0 0 (t1.2.1.length) none, .own 3 0 0 (t1.2.2.1.length) none, .own 4 0 0 (t1.2.2.2.1.length) none, .d (.v (.int .i64 x0.Capacity.CPU)), .d (.v (.int .i64 x0.Capacity.Memory)), .d (.v (.int .i64 x0.Capacity.Disk)), .d (.v (.int .i64 x0.MaxPods)), .d (.v (.bool x0.Cordoned)), .own 5 0 0 (t1.2.2.2.2.1.length) none, .d (.v (.bool x0.Ready)), .d (.v (.int .i64 x0.Beat)), .d (.v (.bool x0.LowMem)), .d (.v (.bool x0.LowDisk)), .own 6 0 0 (t1.2.2.2.2.2.length) none]), some (.arr 0 2 (t1.1.map eLabel)), some (.arr 0 5 (t1.2.1.map eOwner)), some (.arr 0 1 (t1.2.2.1.map eS)), some (.arr 0 2 (t1.2.2.2.1.map eManager)), some (.arr 0 4 (t1.2.2.2.2.1.map eTaint)), some (.arr 0 3 (t1.2.2.2.2.2.map eImage)), some (.box [.d (.v (.string ((⟨#[]⟩ : ByteArray)))), .d (.v (.string ((⟨#[]⟩ : ByteArray)))), .d (.v (.string ((⟨#[]⟩ : ByteArray)))), .d (.v (.int .i64 0)), .d (.v (.int .i64 0)), .d (.v (.int .i64 0)), .d (.v (.int .i64 0)), .d (.v (.bool false)), .d (.v (.int .i64 0)), .d (.v (.slice none 0 0)), .d (.v (.slice none 0 0)), .d (.v (.slice none 0 0)), .d (.v (.slice none 0 0)), .d (.v (.int .i64 0)), .d (.v (.int .i64 0)), .d (.v (.int .i64 0)), .d (.v (.int .i64 0)), .d (.v (.bool false)), .d (.v (.slice none 0 0)), .d (.v (.bool false)), .d (.v (.int .i64 0)), .d (.v (.bool false)), .d (.v (.bool false)), .d (.v (.slice none 0 0))]), some (.box [.own 9 0 0 (o8.length) none]), some (.arr 0 4 (o8.map eTaint)), some (.arr 0 4 (((lit [(⟨(⟨#[110, 111, 100, 101, 45, 110, 111, 116, 45, 114, 101, 97, 100, 121]⟩ : ByteArray), (⟨#[]⟩ : ByteArray), 1, 0⟩ : Taint), (⟨(⟨#[110, 111, 100, 101, 45, 110, 111, 116, 45, 114, 101, 97, 100, 121]⟩ : ByteArray), (⟨#[]⟩ : ByteArray), 3, 0⟩ : Taint), (⟨(⟨#[108, 111, 119, 45, 109, 101, 109, 111, 114, 121]⟩ : ByteArray), (⟨#[]⟩ : ByteArray), 1, 0⟩ : Taint), (⟨(⟨#[108, 111, 119, 45, 100, 105, 115, 107]⟩ : ByteArray), (⟨#[]⟩ : ByteArray), 1, 0⟩ : Taint)])).map eTaint))]⟩) ?_ ?_
      · have h := ho
        clear ho
        simp only [VW.down, Nat.reduceEqDiff, reduceCtorEq, Nat.reduceAdd, Nat.reduceLeDiff, Nat.reduceLT, Nat.reduceBEq, Nat.reduceSub, EE.down]
        obtain ⟨y9, hy9, h⟩ := Option.bind_eq_some_iff.1 h
        refine t_idxO (enc := eTaint) (xs := ((lit [(⟨(⟨#[110, 111, 100, 101, 45, 110, 111, 116, 45, 114, 101, 97, 100, 121]⟩ : ByteArray), (⟨#[]⟩ : ByteArray), 1, 0⟩ : Taint), (⟨(⟨#[110, 111, 100, 101, 45, 110, 111, 116, 45, 114, 101, 97, 100, 121]⟩ : ByteArray), (⟨#[]⟩ : ByteArray), 3, 0⟩ : Taint), (⟨(⟨#[108, 111, 119, 45, 109, 101, 109, 111, 114, 121]⟩ : ByteArray), (⟨#[]⟩ : ByteArray), 1, 0⟩ : Taint), (⟨(⟨#[108, 111, 119, 45, 100, 105, 115, 107]⟩ : ByteArray), (⟨#[]⟩ : ByteArray), 1, 0⟩ : Taint)]))) rfl rfl rfl (by first | rfl | simp only [List.length_set] | exact (clrL_len (slI_len (by assumption))).symm) hy9 ?_
        simp only [VW.down, Nat.reduceEqDiff, reduceCtorEq, Nat.reduceAdd, Nat.reduceLeDiff, Nat.reduceLT, Nat.reduceBEq, Nat.reduceSub, EE.down]
        refine LdRow.rd (rdI_some hy9).2.1 ?_
        simp only [VW.down, Nat.reduceEqDiff, reduceCtorEq, Nat.reduceAdd, Nat.reduceLeDiff, Nat.reduceLT, Nat.reduceBEq, Nat.reduceSub, EE.down]
        obtain ⟨o10, ho, h⟩ := Option.bind_eq_some_iff.1 h
        refine cutS (fun s => s = ⟨[(1, .one (.c (.d (.v (.int .i64 ((if 1000000000000 < (if x1 < 0 then 0 else x1) then 1000000000000 else (if x1 < 0 then 0 else x1)))))))), (3, .one (.c (.pt 0 0))), (6, .one (.c (.pt 7 0))), (7, .one (.c (.d (.v (.bool (decide ((if 1000000000000 < (if x2 < 0 then 0 else x2) then 1000000000000 else (if x2 < 0 then 0 else x2)) < (IntKind.i64.wrap (((if 1000000000000 < (if x1 < 0 then 0 else x1) then 1000000000000 else (if x1 < 0 then 0 else x1))) - ((if 1000000000000 < (if x0.Beat < 0 then 0 else x0.Beat) then 1000000000000 else (if x0.Beat < 0 then 0 else x0.Beat)))))))))))), (8, .one (.c (.pt 8 0))), (10, .one (.c (.pt 10 0))), (25, .one (.c (.own 11 0 0 (((lit [(⟨(⟨#[110, 111, 100, 101, 45, 110, 111, 116, 45, 114, 101, 97, 100, 121]⟩ : ByteArray), (⟨#[]⟩ : ByteArray), 1, 0⟩ : Taint), (⟨(⟨#[110, 111, 100, 101, 45, 110, 111, 116, 45, 114, 101, 97, 100, 121]⟩ : ByteArray), (⟨#[]⟩ : ByteArray), 3, 0⟩ : Taint), (⟨(⟨#[108, 111, 119, 45, 109, 101, 109, 111, 114, 121]⟩ : ByteArray), (⟨#[]⟩ : ByteArray), 1, 0⟩ : Taint), (⟨(⟨#[108, 111, 119, 45, 100, 105, 115, 107]⟩ : ByteArray), (⟨#[]⟩ : ByteArray), 1, 0⟩ : Taint)])).length) none))), (26, .one (.c (.d (.v (.int .i64 ((((lit [(⟨(⟨#[110, 111, 100, 101, 45, 110, 111, 116, 45, 114, 101, 97, 100, 121]⟩ : ByteArray), (⟨#[]⟩ : ByteArray), 1, 0⟩ : Taint), (⟨(⟨#[110, 111, 100, 101, 45, 110, 111, 116, 45, 114, 101, 97, 100, 121]⟩ : ByteArray), (⟨#[]⟩ : ByteArray), 3, 0⟩ : Taint), (⟨(⟨#[108, 111, 119, 45, 109, 101, 109, 111, 114, 121]⟩ : ByteArray), (⟨#[]⟩ : ByteArray), 1, 0⟩ : Taint), (⟨(⟨#[108, 111, 119, 45, 100, 105, 115, 107]⟩ : ByteArray), (⟨#[]⟩ : ByteArray), 1, 0⟩ : Taint)])).length : Int))))))), (27, .one (.c (.d (.v (.int .i64 ((o6_1 : Int))))))), (54, .one (.c (.d (.v (.bool o10)))))], [some (.box [.d (.v (.string x0.Meta.Kind)), .d (.v (.string x0.Meta.Namespace)), .d (.v (.string x0.Meta.Name)), .d (.v (.int .i64 x0.Meta.Uid)), .d (.v (.int .i64 x0.Meta.Version)), .d (.v (.int .i64 x0.Meta.Generation)), .d (.v (.int .i64 x0.Meta.Created)), .d (.v (.bool x0.Meta.Deleting)), .d (.v (.int .i64 x0.Meta.DeleteAt)), .own 1 0 0 (t1.1.length) none, .own 2 0 0 (t1.2.1.length) none, .own 3 0 0 (t1.2.2.1.length) none, .own 4 0 0 (t1.2.2.2.1.length) none, .d (.v (.int .i64 x0.Capacity.CPU)), .d (.v (.int .i64 x0.Capacity.Memory)), .d (.v (.int .i64 x0.Capacity.Disk)), .d (.v (.int .i64 x0.MaxPods)), .d (.v (.bool x0.Cordoned)), .own 5 0 0 (t1.2.2.2.2.1.length) none, .d (.v (.bool x0.Ready)), .d (.v (.int .i64 x0.Beat)), .d (.v (.bool x0.LowMem)), .d (.v (.bool x0.LowDisk)), .own 6 0 0 (t1.2.2.2.2.2.length) none]), some (.arr 0 2 (t1.1.map eLabel)), some (.arr 0 5 (t1.2.1.map eOwner)), some (.arr 0 1 (t1.2.2.1.map eS)), some (.arr 0 2 (t1.2.2.2.1.map eManager)), some (.arr 0 4 (t1.2.2.2.2.1.map eTaint)), some (.arr 0 3 (t1.2.2.2.2.2.map eImage)), some (.box [.d (.v (.string ((⟨#[]⟩ : ByteArray)))), .d (.v (.string ((⟨#[]⟩ : ByteArray)))), .d (.v (.string ((⟨#[]⟩ : ByteArray)))), .d (.v (.int .i64 0)), .d (.v (.int .i64 0)), .d (.v (.int .i64 0)), .d (.v (.int .i64 0)), .d (.v (.bool false)), .d (.v (.int .i64 0)), .d (.v (.slice none 0 0)), .d (.v (.slice none 0 0)), .d (.v (.slice none 0 0)), .d (.v (.slice none 0 0)), .d (.v (.int .i64 0)), .d (.v (.int .i64 0)), .d (.v (.int .i64 0)), .d (.v (.int .i64 0)), .d (.v (.bool false)), .d (.v (.slice none 0 0)), .d (.v (.bool false)), .d (.v (.int .i64 0)), .d (.v (.bool false)), .d (.v (.bool false)), .d (.v (.slice none 0 0))]), some (.box [.own 9 0 0 (o6_0.length) none]), some (.arr 0 4 (o6_0.map eTaint)), some (.box [.d (.v (.string y9.Key)), .d (.v (.string y9.Value)), .d (.v (.int .i64 y9.Effect)), .d (.v (.int .i64 y9.Since))]), some (.arr 0 4 (((lit [(⟨(⟨#[110, 111, 100, 101, 45, 110, 111, 116, 45, 114, 101, 97, 100, 121]⟩ : ByteArray), (⟨#[]⟩ : ByteArray), 1, 0⟩ : Taint), (⟨(⟨#[110, 111, 100, 101, 45, 110, 111, 116, 45, 114, 101, 97, 100, 121]⟩ : ByteArray), (⟨#[]⟩ : ByteArray), 3, 0⟩ : Taint), (⟨(⟨#[108, 111, 119, 45, 109, 101, 109, 111, 114, 121]⟩ : ByteArray), (⟨#[]⟩ : ByteArray), 1, 0⟩ : Taint), (⟨(⟨#[108, 111, 119, 45, 100, 105, 115, 107]⟩ : ByteArray), (⟨#[]⟩ : ByteArray), 1, 0⟩ : Taint)])).map eTaint))]⟩) ?_ ?_
        · have h := ho
          clear ho
          simp only [VW.down, Nat.reduceEqDiff, reduceCtorEq, Nat.reduceAdd, Nat.reduceLeDiff, Nat.reduceLT, Nat.reduceBEq, Nat.reduceSub, EE.down]
          refine guardS (fun g11 => ?_) (fun g11 => ?_)
          · have h := (if_pos g11).symm.trans h
            simp only [VW.down, Nat.reduceEqDiff, reduceCtorEq, Nat.reduceAdd, Nat.reduceLeDiff, Nat.reduceLT, Nat.reduceBEq, Nat.reduceSub, EE.down]
            refine guardS (fun g12 => ?_) (fun g12 => ?_)
            · have h := (if_pos g12).symm.trans h
              simp only [VW.down, Nat.reduceEqDiff, reduceCtorEq, Nat.reduceAdd, Nat.reduceLeDiff, Nat.reduceLT, Nat.reduceBEq, Nat.reduceSub, EE.down]
              obtain rfl := Option.some.inj h
              exact eM [some 0, some 1, some 2, some 3, some 4, some 5, some 6, some 7, some 8, some 9, some 11, some 10] rfl
            · have h := (if_neg g12).symm.trans h
              simp only [VW.down, Nat.reduceEqDiff, reduceCtorEq, Nat.reduceAdd, Nat.reduceLeDiff, Nat.reduceLT, Nat.reduceBEq, Nat.reduceSub, EE.down]
              refine guardS (fun g13 => ?_) (fun g13 => ?_)
              · have h := (if_pos g13).symm.trans h
                simp only [VW.down, Nat.reduceEqDiff, reduceCtorEq, Nat.reduceAdd, Nat.reduceLeDiff, Nat.reduceLT, Nat.reduceBEq, Nat.reduceSub, EE.down]
                refine guardSB (fun g14 => ?_) (fun g14 => ?_)
                · have h := (if_pos g14).symm.trans h
                  simp only [VW.down, Nat.reduceEqDiff, reduceCtorEq, Nat.reduceAdd, Nat.reduceLeDiff, Nat.reduceLT, Nat.reduceBEq, Nat.reduceSub, EE.down]
                  obtain rfl := Option.some.inj h
                  exact eM [some 0, some 1, some 2, some 3, some 4, some 5, some 6, some 7, some 8, some 9, some 11, some 10] rfl
                · have h := (if_neg g14).symm.trans h
                  simp only [VW.down, Nat.reduceEqDiff, reduceCtorEq, Nat.reduceAdd, Nat.reduceLeDiff, Nat.reduceLT, Nat.reduceBEq, Nat.reduceSub, EE.down]
                  refine guardS (fun g15 => ?_) (fun g15 => ?_)
                  · have h := (if_pos g15).symm.trans h
                    simp only [VW.down, Nat.reduceEqDiff, reduceCtorEq, Nat.reduceAdd, Nat.reduceLeDiff, Nat.reduceLT, Nat.reduceBEq, Nat.reduceSub, EE.down]
                    obtain rfl := Option.some.inj h
                    exact eM [some 0, some 1, some 2, some 3, some 4, some 5, some 6, some 7, some 8, some 9, some 11, some 10] rfl
                  · have h := (if_neg g15).symm.trans h
                    simp only [VW.down, Nat.reduceEqDiff, reduceCtorEq, Nat.reduceAdd, Nat.reduceLeDiff, Nat.reduceLT, Nat.reduceBEq, Nat.reduceSub, EE.down]
                    obtain rfl := Option.some.inj h
                    exact eM [some 0, some 1, some 2, some 3, some 4, some 5, some 6, some 7, some 8, some 9, some 11, some 10] rfl
              · have h := (if_neg g13).symm.trans h
                simp only [VW.down, Nat.reduceEqDiff, reduceCtorEq, Nat.reduceAdd, Nat.reduceLeDiff, Nat.reduceLT, Nat.reduceBEq, Nat.reduceSub, EE.down]
                refine guardS (fun g16 => ?_) (fun g16 => ?_)
                · have h := (if_pos g16).symm.trans h
                  simp only [VW.down, Nat.reduceEqDiff, reduceCtorEq, Nat.reduceAdd, Nat.reduceLeDiff, Nat.reduceLT, Nat.reduceBEq, Nat.reduceSub, EE.down]
                  obtain rfl := Option.some.inj h
                  exact eM [some 0, some 1, some 2, some 3, some 4, some 5, some 6, some 7, some 8, some 9, some 11, some 10] rfl
                · have h := (if_neg g16).symm.trans h
                  simp only [VW.down, Nat.reduceEqDiff, reduceCtorEq, Nat.reduceAdd, Nat.reduceLeDiff, Nat.reduceLT, Nat.reduceBEq, Nat.reduceSub, EE.down]
                  obtain rfl := Option.some.inj h
                  exact eM [some 0, some 1, some 2, some 3, some 4, some 5, some 6, some 7, some 8, some 9, some 11, some 10] rfl
          · have h := (if_neg g11).symm.trans h
            simp only [VW.down, Nat.reduceEqDiff, reduceCtorEq, Nat.reduceAdd, Nat.reduceLeDiff, Nat.reduceLT, Nat.reduceBEq, Nat.reduceSub, EE.down]
            refine guardS (fun g17 => ?_) (fun g17 => ?_)
            · have h := (if_pos g17).symm.trans h
              simp only [VW.down, Nat.reduceEqDiff, reduceCtorEq, Nat.reduceAdd, Nat.reduceLeDiff, Nat.reduceLT, Nat.reduceBEq, Nat.reduceSub, EE.down]
              refine guardSB (fun g18 => ?_) (fun g18 => ?_)
              · have h := (if_pos g18).symm.trans h
                simp only [VW.down, Nat.reduceEqDiff, reduceCtorEq, Nat.reduceAdd, Nat.reduceLeDiff, Nat.reduceLT, Nat.reduceBEq, Nat.reduceSub, EE.down]
                obtain rfl := Option.some.inj h
                exact eM [some 0, some 1, some 2, some 3, some 4, some 5, some 6, some 7, some 8, some 9, some 11, some 10] rfl
              · have h := (if_neg g18).symm.trans h
                simp only [VW.down, Nat.reduceEqDiff, reduceCtorEq, Nat.reduceAdd, Nat.reduceLeDiff, Nat.reduceLT, Nat.reduceBEq, Nat.reduceSub, EE.down]
                refine guardS (fun g19 => ?_) (fun g19 => ?_)
                · have h := (if_pos g19).symm.trans h
                  simp only [VW.down, Nat.reduceEqDiff, reduceCtorEq, Nat.reduceAdd, Nat.reduceLeDiff, Nat.reduceLT, Nat.reduceBEq, Nat.reduceSub, EE.down]
                  obtain rfl := Option.some.inj h
                  exact eM [some 0, some 1, some 2, some 3, some 4, some 5, some 6, some 7, some 8, some 9, some 11, some 10] rfl
                · have h := (if_neg g19).symm.trans h
                  simp only [VW.down, Nat.reduceEqDiff, reduceCtorEq, Nat.reduceAdd, Nat.reduceLeDiff, Nat.reduceLT, Nat.reduceBEq, Nat.reduceSub, EE.down]
                  obtain rfl := Option.some.inj h
                  exact eM [some 0, some 1, some 2, some 3, some 4, some 5, some 6, some 7, some 8, some 9, some 11, some 10] rfl
            · have h := (if_neg g17).symm.trans h
              simp only [VW.down, Nat.reduceEqDiff, reduceCtorEq, Nat.reduceAdd, Nat.reduceLeDiff, Nat.reduceLT, Nat.reduceBEq, Nat.reduceSub, EE.down]
              refine guardS (fun g20 => ?_) (fun g20 => ?_)
              · have h := (if_pos g20).symm.trans h
                simp only [VW.down, Nat.reduceEqDiff, reduceCtorEq, Nat.reduceAdd, Nat.reduceLeDiff, Nat.reduceLT, Nat.reduceBEq, Nat.reduceSub, EE.down]
                obtain rfl := Option.some.inj h
                exact eM [some 0, some 1, some 2, some 3, some 4, some 5, some 6, some 7, some 8, some 9, some 11, some 10] rfl
              · have h := (if_neg g20).symm.trans h
                simp only [VW.down, Nat.reduceEqDiff, reduceCtorEq, Nat.reduceAdd, Nat.reduceLeDiff, Nat.reduceLT, Nat.reduceBEq, Nat.reduceSub, EE.down]
                obtain rfl := Option.some.inj h
                exact eM [some 0, some 1, some 2, some 3, some 4, some 5, some 6, some 7, some 8, some 9, some 11, some 10] rfl
        · rintro _ rfl
          clear ho
          simp only [VW.down, Nat.reduceEqDiff, reduceCtorEq, Nat.reduceAdd, Nat.reduceLeDiff, Nat.reduceLT, Nat.reduceBEq, Nat.reduceSub, EE.down]
          refine condB (fun c21 => ?_) (fun c21 => ?_)
          · have h := (if_pos c21).symm.trans h
            simp only [VW.down, Nat.reduceEqDiff, reduceCtorEq, Nat.reduceAdd, Nat.reduceLeDiff, Nat.reduceLT, Nat.reduceBEq, Nat.reduceSub, EE.down]
            refine t_bslice (enc := eTaint) (ys := [(⟨y9.Key, y9.Value, y9.Effect, (if 1000000000000 < (if x1 < 0 then 0 else x1) then 1000000000000 else (if x1 < 0 then 0 else x1))⟩ : Taint)]) rfl rfl (by simp [A1.cells]) (by first | rfl | (simp only [List.drop_zero, take_mapL]; rfl)) ?_
            simp only [VW.down, Nat.reduceEqDiff, reduceCtorEq, Nat.reduceAdd, Nat.reduceLeDiff, Nat.reduceLT, Nat.reduceBEq, Nat.reduceSub, EE.down]
            obtain ⟨a22, ha22, h⟩ := Option.bind_eq_some_iff.1 h
            refine t_app (enc := eTaint) (xs := o6_0) rfl rfl (by first | rfl | simp only [List.length_set] | exact (clrL_len (slI_len (by assumption))).symm) rfl (rows_full (enc := eTaint) (by first | rfl | simp only [List.length_set] | exact (clrL_len (slI_len (by assumption))).symm) rfl) ha22 ?_
            simp only [VW.down, Nat.reduceEqDiff, reduceCtorEq, Nat.reduceAdd, Nat.reduceLeDiff, Nat.reduceLT, Nat.reduceBEq, Nat.reduceSub, EE.down]
            obtain rfl := Option.some.inj h
            exact eM [some 0, some 1, some 2, some 3, some 4, some 5, some 6, some 7, some 8, some 9, some 11] rfl
          · have h := (if_neg c21).symm.trans h
            simp only [VW.down, Nat.reduceEqDiff, reduceCtorEq, Nat.reduceAdd, Nat.reduceLeDiff, Nat.reduceLT, Nat.reduceBEq, Nat.reduceSub, EE.down]
            obtain rfl := Option.some.inj h
            exact eM [some 0, some 1, some 2, some 3, some 4, some 5, some 6, some 7, some 8, some 9, some 11] rfl
      · rintro _ rfl
        clear ho
        simp only [VW.down, Nat.reduceEqDiff, reduceCtorEq, Nat.reduceAdd, Nat.reduceLeDiff, Nat.reduceLT, Nat.reduceBEq, Nat.reduceSub, EE.down]
        rw [wrapN (by omega)]
        exact eL' ((((lit [(⟨(⟨#[110, 111, 100, 101, 45, 110, 111, 116, 45, 114, 101, 97, 100, 121]⟩ : ByteArray), (⟨#[]⟩ : ByteArray), 1, 0⟩ : Taint), (⟨(⟨#[110, 111, 100, 101, 45, 110, 111, 116, 45, 114, 101, 97, 100, 121]⟩ : ByteArray), (⟨#[]⟩ : ByteArray), 3, 0⟩ : Taint), (⟨(⟨#[108, 111, 119, 45, 109, 101, 109, 111, 114, 121]⟩ : ByteArray), (⟨#[]⟩ : ByteArray), 1, 0⟩ : Taint), (⟨(⟨#[108, 111, 119, 45, 100, 105, 115, 107]⟩ : ByteArray), (⟨#[]⟩ : ByteArray), 1, 0⟩ : Taint)]))).length - (o6_1 + 1)) [some 0, some 1, some 2, some 3, some 4, some 5, some 6, some 7, some 8, some 9, some 10] ⟨o6_1 + 1, o8, ⟨by omega, rfl⟩, rfl, h⟩ (by omega)
    · rw [countN (show ¬ ((o6_1 : Int) < ((((lit [(⟨(⟨#[110, 111, 100, 101, 45, 110, 111, 116, 45, 114, 101, 97, 100, 121]⟩ : ByteArray), (⟨#[]⟩ : ByteArray), 1, 0⟩ : Taint), (⟨(⟨#[110, 111, 100, 101, 45, 110, 111, 116, 45, 114, 101, 97, 100, 121]⟩ : ByteArray), (⟨#[]⟩ : ByteArray), 3, 0⟩ : Taint), (⟨(⟨#[108, 111, 119, 45, 109, 101, 109, 111, 114, 121]⟩ : ByteArray), (⟨#[]⟩ : ByteArray), 1, 0⟩ : Taint), (⟨(⟨#[108, 111, 119, 45, 100, 105, 115, 107]⟩ : ByteArray), (⟨#[]⟩ : ByteArray), 1, 0⟩ : Taint)]))).length : Int)) from c7), F9_l6] at h
      simp only [VW.down, Nat.reduceEqDiff, reduceCtorEq, Nat.reduceAdd, Nat.reduceLeDiff, Nat.reduceLT, Nat.reduceBEq, Nat.reduceSub, EE.down]
      obtain rfl := Option.some.inj h
      exact eM [some 0, some 1, some 2, some 3, some 4, some 5, some 6, some 7, some 8, some 9] rfl
  · rintro _ rfl
    clear ho
    simp only [VW.down, Nat.reduceEqDiff, reduceCtorEq, Nat.reduceAdd, Nat.reduceLeDiff, Nat.reduceLT, Nat.reduceBEq, Nat.reduceSub, EE.down]
    obtain ⟨t24, ht24, h⟩ := Option.bind_eq_some_iff.1 h
    refine callX_n [5, 8, 9] (F25_ok (e0 := 0) (e2 := 0) ht24) ?_ ?_ ?_ ?_ ?_ ?_
    · first | rfl | simp [nrmA, nrmC, nrm, A1.ren, C.ren, rn, List.length_set]
    · simp [liveAll, A1.live, C.live, hp]
    · rfl
    · decide
    · exact ⟨⟨rfl, trivial⟩, ⟨⟨rfl, by simp [Blk.live, C.live, hp]⟩, ⟨⟨rfl, trivial⟩, trivial⟩⟩⟩
    simp only [VW.down, Nat.reduceEqDiff, reduceCtorEq, Nat.reduceAdd, Nat.reduceLeDiff, Nat.reduceLT, Nat.reduceBEq, Nat.reduceSub, EE.down]
    obtain ⟨o25, ho, h⟩ := Option.bind_eq_some_iff.1 h
    refine cutS (fun s => s = ⟨[(3, .one (.c (.pt 0 0))), (6, .one (.c (.pt 7 0)))], [some (.box [.d (.v (.string x0.Meta.Kind)), .d (.v (.string x0.Meta.Namespace)), .d (.v (.string x0.Meta.Name)), .d (.v (.int .i64 x0.Meta.Uid)), .d (.v (.int .i64 x0.Meta.Version)), .d (.v (.int .i64 x0.Meta.Generation)), .d (.v (.int .i64 x0.Meta.Created)), .d (.v (.bool x0.Meta.Deleting)), .d (.v (.int .i64 x0.Meta.DeleteAt)), .own 1 0 0 (t1.1.length) none, .own 2 0 0 (t1.2.1.length) none, .own 3 0 0 (t1.2.2.1.length) none, .own 4 0 0 (t1.2.2.2.1.length) none, .d (.v (.int .i64 x0.Capacity.CPU)), .d (.v (.int .i64 x0.Capacity.Memory)), .d (.v (.int .i64 x0.Capacity.Disk)), .d (.v (.int .i64 x0.MaxPods)), .d (.v (.bool x0.Cordoned)), .own 5 0 0 (o25.length) none, .d (.v (.bool (decide (¬ ((if 1000000000000 < (if x2 < 0 then 0 else x2) then 1000000000000 else (if x2 < 0 then 0 else x2)) < (IntKind.i64.wrap (((if 1000000000000 < (if x1 < 0 then 0 else x1) then 1000000000000 else (if x1 < 0 then 0 else x1))) - ((if 1000000000000 < (if x0.Beat < 0 then 0 else x0.Beat) then 1000000000000 else (if x0.Beat < 0 then 0 else x0.Beat)))))))))), .d (.v (.int .i64 x0.Beat)), .d (.v (.bool x0.LowMem)), .d (.v (.bool x0.LowDisk)), .own 6 0 0 (t1.2.2.2.2.2.length) none]), some (.arr 0 2 (t1.1.map eLabel)), some (.arr 0 5 (t1.2.1.map eOwner)), some (.arr 0 1 (t1.2.2.1.map eS)), some (.arr 0 2 (t1.2.2.2.1.map eManager)), some (.arr 0 4 (o25.map eTaint)), some (.arr 0 3 (t1.2.2.2.2.2.map eImage)), some (.box [.d (.v (.string ((⟨#[]⟩ : ByteArray)))), .d (.v (.string ((⟨#[]⟩ : ByteArray)))), .d (.v (.string ((⟨#[]⟩ : ByteArray)))), .d (.v (.int .i64 0)), .d (.v (.int .i64 0)), .d (.v (.int .i64 0)), .d (.v (.int .i64 0)), .d (.v (.bool false)), .d (.v (.int .i64 0)), .d (.v (.slice none 0 0)), .d (.v (.slice none 0 0)), .d (.v (.slice none 0 0)), .d (.v (.slice none 0 0)), .d (.v (.int .i64 0)), .d (.v (.int .i64 0)), .d (.v (.int .i64 0)), .d (.v (.int .i64 0)), .d (.v (.bool false)), .d (.v (.slice none 0 0)), .d (.v (.bool false)), .d (.v (.int .i64 0)), .d (.v (.bool false)), .d (.v (.bool false)), .d (.v (.slice none 0 0))])]⟩) ?_ ?_
    · have h := ho
      clear ho
      obtain ⟨_, hk, h⟩ := Option.bind_eq_some_iff.1 h
      have hk := ck_some hk
      simp only [VW.down, Nat.reduceEqDiff, reduceCtorEq, Nat.reduceAdd, Nat.reduceLeDiff, Nat.reduceLT, Nat.reduceBEq, Nat.reduceSub, EE.down]
      refine bL (fun j s => ∃ (o25_1 : Nat) (o25_0 : List Taint), (o25_1 ≤ o6.length ∧ j = o6.length - o25_1) ∧ s = ⟨[(3, .one (.c (.pt 0 0))), (6, .one (.c (.pt 7 0))), (70, .one (.c (.own 8 0 0 (o6.length) none))), (71, .one (.c (.d (.v (.int .i64 ((o6.length : Int))))))), (72, .one (.c (.d (.v (.int .i64 ((o25_1 : Int)))))))], [some (.box [.d (.v (.string x0.Meta.Kind)), .d (.v (.string x0.Meta.Namespace)), .d (.v (.string x0.Meta.Name)), .d (.v (.int .i64 x0.Meta.Uid)), .d (.v (.int .i64 x0.Meta.Version)), .d (.v (.int .i64 x0.Meta.Generation)), .d (.v (.int .i64 x0.Meta.Created)), .d (.v (.bool x0.Meta.Deleting)), .d (.v (.int .i64 x0.Meta.DeleteAt)), .own 1 0 0 (t1.1.length) none, .own 2 0 0 (t1.2.1.length) none, .own 3 0 0 (t1.2.2.1.length) none, .own 4 0 0 (t1.2.2.2.1.length) none, .d (.v (.int .i64 x0.Capacity.CPU)), .d (.v (.int .i64 x0.Capacity.Memory)), .d (.v (.int .i64 x0.Capacity.Disk)), .d (.v (.int .i64 x0.MaxPods)), .d (.v (.bool x0.Cordoned)), .own 5 0 0 (o25_0.length) none, .d (.v (.bool (decide (¬ ((if 1000000000000 < (if x2 < 0 then 0 else x2) then 1000000000000 else (if x2 < 0 then 0 else x2)) < (IntKind.i64.wrap (((if 1000000000000 < (if x1 < 0 then 0 else x1) then 1000000000000 else (if x1 < 0 then 0 else x1))) - ((if 1000000000000 < (if x0.Beat < 0 then 0 else x0.Beat) then 1000000000000 else (if x0.Beat < 0 then 0 else x0.Beat)))))))))), .d (.v (.int .i64 x0.Beat)), .d (.v (.bool x0.LowMem)), .d (.v (.bool x0.LowDisk)), .own 6 0 0 (t1.2.2.2.2.2.length) none]), some (.arr 0 2 (t1.1.map eLabel)), some (.arr 0 5 (t1.2.1.map eOwner)), some (.arr 0 1 (t1.2.2.1.map eS)), some (.arr 0 2 (t1.2.2.2.1.map eManager)), some (.arr 0 4 (o25_0.map eTaint)), some (.arr 0 3 (t1.2.2.2.2.2.map eImage)), some (.box [.d (.v (.string ((⟨#[]⟩ : ByteArray)))), .d (.v (.string ((⟨#[]⟩ : ByteArray)))), .d (.v (.string ((⟨#[]⟩ : ByteArray)))), .d (.v (.int .i64 0)), .d (.v (.int .i64 0)), .d (.v (.int .i64 0)), .d (.v (.int .i64 0)), .d (.v (.bool false)), .d (.v (.int .i64 0)), .d (.v (.slice none 0 0)), .d (.v (.slice none 0 0)), .d (.v (.slice none 0 0)), .d (.v (.slice none 0 0)), .d (.v (.int .i64 0)), .d (.v (.int .i64 0)), .d (.v (.int .i64 0)), .d (.v (.int .i64 0)), .d (.v (.bool false)), .d (.v (.slice none 0 0)), .d (.v (.bool false)), .d (.v (.int .i64 0)), .d (.v (.bool false)), .d (.v (.bool false)), .d (.v (.slice none 0 0))]), some (.arr 0 4 (o6.map eTaint))]⟩ ∧ F9_l25 o6 (o6.drop o25_1) o25_1 o25_0 = some o25) (o6.length - 0) [some 0, some 1, some 2, some 3, some 4, some 5, some 6, some 7, some 9] ⟨0, t24, ⟨hk.1, rfl⟩, rfl, h⟩ ?_
      rintro _ _ ⟨o25_1, o25_0, ⟨hi, rfl⟩, rfl, h⟩
      simp only [VW.down, Nat.reduceEqDiff, reduceCtorEq, Nat.reduceAdd, Nat.reduceLeDiff, Nat.reduceLT, Nat.reduceBEq, Nat.reduceSub, EE.down]
      refine condS (fun c26 => ?_) (fun c26 => ?_)
      · obtain ⟨xo25, hxo25, hd⟩ := countY (show (o25_1 : Int) < (o6.length : Int) from c26)
        rw [hd, F9_l25] at h
        simp only [VW.down, Nat.reduceEqDiff, reduceCtorEq, Nat.reduceAdd, Nat.reduceLeDiff, Nat.reduceLT, Nat.reduceBEq, Nat.reduceSub, EE.down]
        obtain ⟨o27, ho, h⟩ := Option.bind_eq_some_iff.1 h
        refine cutS (fun s => s = ⟨[(3, .one (.c (.pt 0 0))), (6, .one (.c (.pt 7 0))), (70, .one (.c (.own 8 0 0 (o6.length) none))), (71, .one (.c (.d (.v (.int .i64 ((o6.length : Int))))))), (72, .one (.c (.d (.v (.int .i64 ((o25_1 : Int)))))))], [some (.box [.d (.v (.string x0.Meta.Kind)), .d (.v (.string x0.Meta.Namespace)), .d (.v (.string x0.Meta.Name)), .d (.v (.int .i64 x0.Meta.Uid)), .d (.v (.int .i64 x0.Meta.Version)), .d (.v (.int .i64 x0.Meta.Generation)), .d (.v (.int .i64 x0.Meta.Created)), .d (.v (.bool x0.Meta.Deleting)), .d (.v (.int .i64 x0.Meta.DeleteAt)), .own 1 0 0 (t1.1.length) none, .own 2 0 0 (t1.2.1.length) none, .own 3 0 0 (t1.2.2.1.length) none, .own 4 0 0 (t1.2.2.2.1.length) none, .d (.v (.int .i64 x0.Capacity.CPU)), .d (.v (.int .i64 x0.Capacity.Memory)), .d (.v (.int .i64 x0.Capacity.Disk)), .d (.v (.int .i64 x0.MaxPods)), .d (.v (.bool x0.Cordoned)), .own 5 0 0 (o27.length) none, .d (.v (.bool (decide (¬ ((if 1000000000000 < (if x2 < 0 then 0 else x2) then 1000000000000 else (if x2 < 0 then 0 else x2)) < (IntKind.i64.wrap (((if 1000000000000 < (if x1 < 0 then 0 else x1) then 1000000000000 else (if x1 < 0 then 0 else x1))) - ((if 1000000000000 < (if x0.Beat < 0 then 0 else x0.Beat) then 1000000000000 else (if x0.Beat < 0 then 0 else x0.Beat)))))))))), .d (.v (.int .i64 x0.Beat)), .d (.v (.bool x0.LowMem)), .d (.v (.bool x0.LowDisk)), .own 6 0 0 (t1.2.2.2.2.2.length) none]), some (.arr 0 2 (t1.1.map eLabel)), some (.arr 0 5 (t1.2.1.map eOwner)), some (.arr 0 1 (t1.2.2.1.map eS)), some (.arr 0 2 (t1.2.2.2.1.map eManager)), some (.arr 0 4 (o27.map eTaint)), some (.arr 0 3 (t1.2.2.2.2.2.map eImage)), some (.box [.d (.v (.string ((⟨#[]⟩ : ByteArray)))), .d (.v (.string ((⟨#[]⟩ : ByteArray)))), .d (.v (.string ((⟨#[]⟩ : ByteArray)))), .d (.v (.int .i64 0)), .d (.v (.int .i64 0)), .d (.v (.int .i64 0)), .d (.v (.int .i64 0)), .d (.v (.bool false)), .d (.v (.int .i64 0)), .d (.v (.slice none 0 0)), .d (.v (.slice none 0 0)), .d (.v (.slice none 0 0)), .d (.v (.slice none 0 0)), .d (.v (.int .i64 0)), .d (.v (.int .i64 0)), .d (.v (.int .i64 0)), .d (.v (.int .i64 0)), .d (.v (.bool false)), .d (.v (.slice none 0 0)), .d (.v (.bool false)), .d (.v (.int .i64 0)), .d (.v (.bool false)), .d (.v (.bool false)), .d (.v (.slice none 0 0))]), some (.arr 0 4 (o6.map eTaint))]⟩) ?_ ?_
        · have h := ho
          clear ho
          simp only [VW.down, Nat.reduceEqDiff, reduceCtorEq, Nat.reduceAdd, Nat.reduceLeDiff, Nat.reduceLT, Nat.reduceBEq, Nat.reduceSub, EE.down]
          obtain ⟨y28, hy28, h⟩ := Option.bind_eq_some_iff.1 h
          refine t_idxO (enc := eTaint) (xs := o6) rfl rfl rfl (by first | rfl | simp only [List.length_set] | exact (clrL_len (slI_len (by assumption))).symm) hy28 ?_
          simp only [VW.down, Nat.reduceEqDiff, reduceCtorEq, Nat.reduceAdd, Nat.reduceLeDiff, Nat.reduceLT, Nat.reduceBEq, Nat.reduceSub, EE.down]
          refine LdRow.rd (rdI_some hy28).2.1 ?_
          simp only [VW.down, Nat.reduceEqDiff, reduceCtorEq, Nat.reduceAdd, Nat.reduceLeDiff, Nat.reduceLT, Nat.reduceBEq, Nat.reduceSub, EE.down]
          obtain ⟨t29, ht29, h⟩ := Option.bind_eq_some_iff.1 h
          refine callX_bor (F27_ok ht29) (by simp only [borAs, bors, hp, List.getElem?_cons_zero, List.getElem?_cons_succ, Option.join_some, List.drop_zero, bor_full', true_and, Nat.zero_add, List.length_map, Nat.le_refl, nrm, List.length_cons, List.length_nil, Nat.reduceAdd, Nat.reduceLeDiff, List.take_succ_cons, List.take_zero, List.take_nil, List.map_cons, List.map_nil, List.length_set, EE.down]) rfl ?_
          simp only [VW.down, Nat.reduceEqDiff, reduceCtorEq, Nat.reduceAdd, Nat.reduceLeDiff, Nat.reduceLT, Nat.reduceBEq, Nat.reduceSub, EE.down]
          refine condB (fun c30 => ?_) (fun c30 => ?_)
          · have h := (if_pos c30).symm.trans h
            simp only [VW.down, Nat.reduceEqDiff, reduceCtorEq, Nat.reduceAdd, Nat.reduceLeDiff, Nat.reduceLT, Nat.reduceBEq, Nat.reduceSub, EE.down]
            refine t_bslice (enc := eTaint) (ys := [y28]) rfl rfl (by simp [A1.cells]) (by first | rfl | (simp only [List.drop_zero, take_mapL]; rfl)) ?_
            simp only [VW.down, Nat.reduceEqDiff, reduceCtorEq, Nat.reduceAdd, Nat.reduceLeDiff, Nat.reduceLT, Nat.reduceBEq, Nat.reduceSub, EE.down]
            obtain ⟨a31, ha31, h⟩ := Option.bind_eq_some_iff.1 h
            refine t_app (enc := eTaint) (xs := o25_0) rfl rfl (by first | rfl | simp only [List.length_set] | exact (clrL_len (slI_len (by assumption))).symm) rfl (rows_full (enc := eTaint) (by first | rfl | simp only [List.length_set] | exact (clrL_len (slI_len (by assumption))).symm) rfl) ha31 ?_
            simp only [VW.down, Nat.reduceEqDiff, reduceCtorEq, Nat.reduceAdd, Nat.reduceLeDiff, Nat.reduceLT, Nat.reduceBEq, Nat.reduceSub, EE.down]
            obtain rfl := Option.some.inj h
            exact eM [some 0, some 1, some 2, some 3, some 4, some 5, some 6, some 7, some 8] rfl
          · have h := (if_neg c30).symm.trans h
            simp only [VW.down, Nat.reduceEqDiff, reduceCtorEq, Nat.reduceAdd, Nat.reduceLeDiff, Nat.reduceLT, Nat.reduceBEq, Nat.reduceSub, EE.down]
            obtain rfl := Option.some.inj h
            exact eM [some 0, some 1, some 2, some 3, some 4, some 5, some 6, some 7, some 8] rfl
        · rintro _ rfl
          clear ho
          simp only [VW.down, Nat.reduceEqDiff, reduceCtorEq, Nat.reduceAdd, Nat.reduceLeDiff, Nat.reduceLT, Nat.reduceBEq, Nat.reduceSub, EE.down]
          rw [wrapN (by omega)]
          exact eL' (o6.length - (o25_1 + 1)) [some 0, some 1, some 2, some 3, some 4, some 5, some 6, some 7, some 8] ⟨o25_1 + 1, o27, ⟨by omega, rfl⟩, rfl, h⟩ (by omega)
      · rw [countN (show ¬ ((o25_1 : Int) < (o6.length : Int)) from c26), F9_l25] at h
        simp only [VW.down, Nat.reduceEqDiff, reduceCtorEq, Nat.reduceAdd, Nat.reduceLeDiff, Nat.reduceLT, Nat.reduceBEq, Nat.reduceSub, EE.down]
        obtain rfl := Option.some.inj h
        exact eM [some 0, some 1, some 2, some 3, some 4, some 5, some 6, some 7] rfl
    · rintro _ rfl
      clear ho
      simp only [VW.down, Nat.reduceEqDiff, reduceCtorEq, Nat.reduceAdd, Nat.reduceLeDiff, Nat.reduceLT, Nat.reduceBEq, Nat.reduceSub, EE.down]
      obtain rfl := Option.some.inj h
      exact eF [some 1, some 2, some 3, some 4, some 5, some 6]

/- orchestrator/meta.Key -/
def F44 (x0 : ByteArray) (x1 : ByteArray) (x2 : ByteArray) : Option (ByteArray) := (catI x0 ((⟨#[47]⟩ : ByteArray))).bind fun s1 => (catI s1 x1).bind fun s2 => (catI s2 ((⟨#[47]⟩ : ByteArray))).bind fun s3 => (catI s3 x2).bind fun s4 => some s4
def a44 : AFn := ⟨14, [(.tmp 6)],
 (.seq (.reg [⟨(some 6), none, .mv (kS ⟨#[]⟩), [], (.new [])⟩])
 (.seq (.reg [⟨(some 7), none, .mv (.t 0), [], (.new [])⟩,
   ⟨(some 8), none, .bin .add (.t 7) (kS ⟨#[47]⟩), [], (.new [])⟩,
   ⟨(some 9), none, .mv (.t 1), [], (.new [])⟩,
   ⟨(some 10), none, .bin .add (.t 8) (.t 9), [], (.new [])⟩,
   ⟨(some 11), none, .bin .add (.t 10) (kS ⟨#[47]⟩), [], (.new [])⟩,
   ⟨(some 12), none, .mv (.t 2), [], (.new [])⟩,
   ⟨(some 13), none, .bin .add (.t 11) (.t 12), [], (.new [])⟩,
   ⟨(some 6), none, .mv (.t 13), [], (.new [])⟩])
 .ret))⟩
theorem a44_ok : afn Try.prog 44 = some a44.er := by kernel_rfl
theorem F44_ok {x0 : ByteArray} {x1 : ByteArray} {x2 : ByteArray} {r : ByteArray} (h : F44 x0 x1 x2 = some r) : CallD Try.prog 44 [.c (.d (.v (.string x0))), .c (.d (.v (.string x1))), .c (.d (.v (.string x2)))] [] (tupV [.c (.d (.v (.string r)))]) [] := by
  refine callS a44_ok (by simp [a44]) ?_
  rw [F44] at h
  simp only [a44, VW.down, Nat.reduceEqDiff, reduceCtorEq, Nat.reduceAdd, Nat.reduceLeDiff, Nat.reduceLT, Nat.reduceBEq, Nat.reduceSub, EE.down]
  obtain ⟨s1, hs1, h⟩ := Option.bind_eq_some_iff.1 h
  obtain ⟨hle, rfl⟩ := cat_some hs1
  refine ⟨hle, ?_⟩
  try simp only [VW.down, Nat.reduceEqDiff, reduceCtorEq, Nat.reduceAdd, Nat.reduceLeDiff, Nat.reduceLT, Nat.reduceBEq, Nat.reduceSub, EE.down]
  obtain ⟨s2, hs2, h⟩ := Option.bind_eq_some_iff.1 h
  obtain ⟨hle, rfl⟩ := cat_some hs2
  refine ⟨hle, ?_⟩
  try simp only [VW.down, Nat.reduceEqDiff, reduceCtorEq, Nat.reduceAdd, Nat.reduceLeDiff, Nat.reduceLT, Nat.reduceBEq, Nat.reduceSub, EE.down]
  obtain ⟨s3, hs3, h⟩ := Option.bind_eq_some_iff.1 h
  obtain ⟨hle, rfl⟩ := cat_some hs3
  refine ⟨hle, ?_⟩
  try simp only [VW.down, Nat.reduceEqDiff, reduceCtorEq, Nat.reduceAdd, Nat.reduceLeDiff, Nat.reduceLT, Nat.reduceBEq, Nat.reduceSub, EE.down]
  obtain ⟨s4, hs4, h⟩ := Option.bind_eq_some_iff.1 h
  obtain ⟨hle, rfl⟩ := cat_some hs4
  refine ⟨hle, ?_⟩
  try simp only [VW.down, Nat.reduceEqDiff, reduceCtorEq, Nat.reduceAdd, Nat.reduceLeDiff, Nat.reduceLT, Nat.reduceBEq, Nat.reduceSub, EE.down]
  obtain rfl := Option.some.inj h
  exact eF []

/- orchestrator/meta.KeyOf -/
def F19 (x0 : Meta) : Option (ByteArray) := (F44 x0.Kind x0.Namespace x0.Name).bind fun t1 => some t1
def a19 : AFn := ⟨10, [(.tmp 2)],
 (.seq (.reg [⟨(some 1), none, .box (.t 0), [], (.new [])⟩,
   ⟨(some 2), none, .mv (kS ⟨#[]⟩), [], (.new [])⟩])
 (.seq (.reg [⟨(some 3), none, .fieldA 0 (.t 1), [], (.new [])⟩,
   ⟨(some 4), none, .load none (.t 3), [], (.new [])⟩,
   ⟨(some 5), none, .fieldA 1 (.t 1), [], (.new [])⟩,
   ⟨(some 6), none, .load none (.t 5), [], (.new [])⟩,
   ⟨(some 7), none, .fieldA 2 (.t 1), [], (.new [])⟩,
   ⟨(some 8), none, .load none (.t 7), [], (.new [])⟩,
   ⟨(some 9), none, .call 44 [(.t 4), (.t 6), (.t 8)], [], (.new [])⟩,
   ⟨(some 2), none, .mv (.t 9), [], (.new [])⟩])
 .ret))⟩
theorem a19_ok : afn Try.prog 19 = some a19.er := by kernel_rfl
theorem F19_ok {x0 : Meta} {r : ByteArray} (h : F19 x0 = some r) : CallD Try.prog 19 [.agg [.d (.v (.string x0.Kind)), .d (.v (.string x0.Namespace)), .d (.v (.string x0.Name)), .d (.v (.int .i64 x0.Uid)), .d (.v (.int .i64 x0.Version)), .d (.v (.int .i64 x0.Generation)), .d (.v (.int .i64 x0.Created)), .d (.v (.bool x0.Deleting)), .d (.v (.int .i64 x0.DeleteAt)), .d (.sl (x0.Labels.map eLabel)), .d (.sl (x0.Owners.map eOwner)), .d (.sl (x0.Finalizers.map eS)), .d (.sl (x0.Managers.map eManager))]] [] (tupV [.c (.d (.v (.string r)))]) [] := by
  refine callS a19_ok (by simp [a19]) ?_
  rw [F19] at h
  simp only [a19, VW.down, Nat.reduceEqDiff, reduceCtorEq, Nat.reduceAdd, Nat.reduceLeDiff, Nat.reduceLT, Nat.reduceBEq, Nat.reduceSub, EE.down]
  obtain ⟨t1, ht1, h⟩ := Option.bind_eq_some_iff.1 h
  refine callX_n [] (F44_ok ht1) ?_ ?_ ?_ ?_ ?_ ?_
  · first | rfl | simp [nrmA, nrmC, nrm, A1.ren, C.ren, rn, List.length_set]
  · simp [liveAll, A1.live, C.live]
  · rfl
  · decide
  · exact trivial
  simp only [VW.down, Nat.reduceEqDiff, reduceCtorEq, Nat.reduceAdd, Nat.reduceLeDiff, Nat.reduceLT, Nat.reduceBEq, Nat.reduceSub, EE.down]
  obtain rfl := Option.some.inj h
  exact eF []

/- orchestrator/nodelife.Leave$1 -/
def F33 (x0 : Node) : Option (Unit) := some (())
def a33 : AFn := ⟨5, [(.tmp 2)],
 (.seq (.reg [⟨(some 1), none, .box (.t 0), [], (.new [])⟩,
   ⟨(some 2), none, .mv (kB false), [], (.new [])⟩])
 (.seq (.reg [⟨(some 3), none, .fieldA 19 (.t 1), [], (.new [])⟩,
   ⟨(some 4), none, .load none (.t 3), [], (.new [])⟩,
   ⟨(some 2), none, .mv (.t 4), [], (.new [])⟩])
 .ret))⟩
theorem a33_ok : afn Try.prog 33 = some a33.er := by kernel_rfl
theorem F33_ok {x0 : Node} {r : Unit} (h : F33 x0 = some r) : CallD Try.prog 33 [.agg [.d (.v (.string x0.Meta.Kind)), .d (.v (.string x0.Meta.Namespace)), .d (.v (.string x0.Meta.Name)), .d (.v (.int .i64 x0.Meta.Uid)), .d (.v (.int .i64 x0.Meta.Version)), .d (.v (.int .i64 x0.Meta.Generation)), .d (.v (.int .i64 x0.Meta.Created)), .d (.v (.bool x0.Meta.Deleting)), .d (.v (.int .i64 x0.Meta.DeleteAt)), .d (.sl (x0.Meta.Labels.map eLabel)), .d (.sl (x0.Meta.Owners.map eOwner)), .d (.sl (x0.Meta.Finalizers.map eS)), .d (.sl (x0.Meta.Managers.map eManager)), .d (.v (.int .i64 x0.Capacity.CPU)), .d (.v (.int .i64 x0.Capacity.Memory)), .d (.v (.int .i64 x0.Capacity.Disk)), .d (.v (.int .i64 x0.MaxPods)), .d (.v (.bool x0.Cordoned)), .d (.sl (x0.Taints.map eTaint)), .d (.v (.bool x0.Ready)), .d (.v (.int .i64 x0.Beat)), .d (.v (.bool x0.LowMem)), .d (.v (.bool x0.LowDisk)), .d (.sl (x0.Images.map eImage))]] [] (tupV [.c (.d (.v (.bool x0.Ready)))]) [] := by
  refine callS a33_ok (by simp [a33]) ?_
  rw [F33] at h
  simp only [a33, VW.down, Nat.reduceEqDiff, reduceCtorEq, Nat.reduceAdd, Nat.reduceLeDiff, Nat.reduceLT, Nat.reduceBEq, Nat.reduceSub, EE.down]
  obtain rfl := Option.some.inj h
  exact eF []

/- slices.IndexFunc[[]orchestrator/api.Node,orchestrator/api.Node] -/
def F56_l1  : List Node → Nat → Option ((Int) ⊕ (Unit))
  | [], o1_0 => some (Sum.inr (()))
  | xo1 :: xs, o1_0 => (F33 xo1).bind fun t3 => (if xo1.Ready = true then (some ((o1_0 : Int))).map Sum.inl else F56_l1  xs (o1_0 + 1))
def F56 (x0 : (List Node)) : Option (Int) := (((ck (0 ≤ x0.length ∧ x0.length ≤ 4294967290)).bind fun u5 => F56_l1 x0 0).bind fun o1 => match o1 with | Sum.inl f => some f | Sum.inr po1 => some ((-1)))
def a56 : AFn := ⟨19, [(.tmp 4)],
 (.seq (.reg [⟨(some 4), none, .mv (kI 0), [], (.new [])⟩])
 (.seq (.seq (.reg [⟨(some 6), none, .mv (.t 0), [], (.new [])⟩,
   ⟨(some 7), none, .len (.t 6), [], (.new [])⟩,
   ⟨(some 8), none, .mv (kI 0), [], (.new [])⟩])
 (.sem (.block 0 (.loop (.seq (.reg [⟨(some 9), none, .bin .lss (.t 8) (.t 7), [], (.new [])⟩])
 (.seq (.cond (.t 9)
 .skip
 (.exit 0))
 (.seq (.block 1 (.seq (.reg [⟨(some 10), none, .mv (.t 8), [], (.new [])⟩,
   ⟨(some 5), none, .mv (.t 10), [], (.new [])⟩])
 (.seq (.reg [⟨(some 11), none, .mv (.t 1), [], (.new [])⟩,
   ⟨(some 12), none, .mv (.t 0), [], (.new [])⟩,
   ⟨(some 13), none, .mv (.t 5), [], (.new [])⟩,
   ⟨(some 14), none, .indexA 24 (.t 12) (.t 13), [], (.new [])⟩,
   ⟨(some 15), none, .load (some 24) (.t 14), [], (.new [])⟩,
   ⟨(some 16), none, .callv (.t 11) [(.t 15)], [], (.lone [12, 14])⟩])
 (.cond (.t 16)
 (.seq (.reg [⟨(some 17), none, .mv (.t 5), [], (.new [])⟩,
   ⟨(some 4), none, .mv (.t 17), [], (.new [])⟩])
 .ret)
 .skip))))
 (.reg [⟨(some 18), none, .bin .add (.t 8) (kI 1), [], (.new [])⟩,
   ⟨(some 8), none, .mv (.t 18), [], (.new [])⟩]))))))))
 (.seq (.reg [⟨(some 4), none, .mv (kI (-1)), [], (.new [])⟩])
 .ret)))⟩
theorem a56_ok : afn Try.prog 56 = some a56.er := by kernel_rfl
theorem F56_ok {x0 : (List Node)} {r : Int} (h : F56 x0 = some r) : CallD Try.prog 56 [.c (.d (.sl (x0.map eNode))), .c (.fn 33 [])] [] (tupV [.c (.d (.v (.int .i64 r)))]) [] := by
  refine callS a56_ok (by simp [a56]) ?_
  rw [F56] at h
  simp only [a56, VW.down, Nat.reduceEqDiff, reduceCtorEq, Nat.reduceAdd, Nat.reduceLeDiff, Nat.reduceLT, Nat.reduceBEq, Nat.reduceSub, EE.down]
  obtain ⟨o1, ho, h⟩ := Option.bind_eq_some_iff.1 h
  refine cutS (fun s => ∃ po1, o1 = Sum.inr po1 ∧ s = ⟨[], []⟩) ?_ ?_
  · have h0o1 := h
    have h := ho
    clear ho
    obtain ⟨_, hk, h⟩ := Option.bind_eq_some_iff.1 h
    have hk := ck_some hk
    simp only [VW.down, Nat.reduceEqDiff, reduceCtorEq, Nat.reduceAdd, Nat.reduceLeDiff, Nat.reduceLT, Nat.reduceBEq, Nat.reduceSub, EE.down]
    refine bL (fun j s => ∃ (o1_0 : Nat), (o1_0 ≤ x0.length ∧ j = x0.length - o1_0) ∧ s = ⟨[(0, .one (.c (.d (.sl (x0.map eNode))))), (1, .one (.c (.fn 33 []))), (7, .one (.c (.d (.v (.int .i64 ((x0.length : Int))))))), (8, .one (.c (.d (.v (.int .i64 ((o1_0 : Int)))))))], []⟩ ∧ F56_l1 (x0.drop o1_0) o1_0 = some o1) (x0.length - 0) [] ⟨0, ⟨hk.1, rfl⟩, rfl, h⟩ ?_
    rintro _ _ ⟨o1_0, ⟨hi, rfl⟩, rfl, h⟩
    simp only [VW.down, Nat.reduceEqDiff, reduceCtorEq, Nat.reduceAdd, Nat.reduceLeDiff, Nat.reduceLT, Nat.reduceBEq, Nat.reduceSub, EE.down]
    refine condS (fun c2 => ?_) (fun c2 => ?_)
    · obtain ⟨xo1, hxo1, hd⟩ := countY (show (o1_0 : Int) < (x0.length : Int) from c2)
      rw [hd, F56_l1] at h
      simp only [VW.down, Nat.reduceEqDiff, reduceCtorEq, Nat.reduceAdd, Nat.reduceLeDiff, Nat.reduceLT, Nat.reduceBEq, Nat.reduceSub, EE.down]
      refine t_idxF (enc := eNode) (xs := x0) rfl rfl hxo1 rfl ?_
      simp only [VW.down, Nat.reduceEqDiff, reduceCtorEq, Nat.reduceAdd, Nat.reduceLeDiff, Nat.reduceLT, Nat.reduceBEq, Nat.reduceSub, EE.down]
      obtain ⟨t3, ht3, h⟩ := Option.bind_eq_some_iff.1 h
      refine callX_n [] (F33_ok ht3) ?_ ?_ ?_ ?_ ?_ ?_
      · first | rfl | simp [nrmA, nrmC, nrm, A1.ren, C.ren, rn, List.length_set]
      · simp [liveAll, A1.live, C.live]
      · rfl
      · decide
      · exact trivial
      simp only [VW.down, Nat.reduceEqDiff, reduceCtorEq, Nat.reduceAdd, Nat.reduceLeDiff, Nat.reduceLT, Nat.reduceBEq, Nat.reduceSub, EE.down]
      refine condB (fun c4 => ?_) (fun c4 => ?_)
      · have h := (if_pos c4).symm.trans h
        simp only [VW.down, Nat.reduceEqDiff, reduceCtorEq, Nat.reduceAdd, Nat.reduceLeDiff, Nat.reduceLT, Nat.reduceBEq, Nat.reduceSub, EE.down]
        obtain ⟨fh0o1, hfh0o1, rfl⟩ := Option.map_eq_some_iff.1 h
        have h := hfh0o1.trans h0o1
        obtain rfl := Option.some.inj h
        exact eF []
      · have h := (if_neg c4).symm.trans h
        simp only [VW.down, Nat.reduceEqDiff, reduceCtorEq, Nat.reduceAdd, Nat.reduceLeDiff, Nat.reduceLT, Nat.reduceBEq, Nat.reduceSub, EE.down]
        rw [wrapN (by omega)]
        exact eL' (x0.length - (o1_0 + 1)) [] ⟨o1_0 + 1, ⟨by omega, rfl⟩, rfl, h⟩ (by omega)
    · rw [countN (show ¬ ((o1_0 : Int) < (x0.length : Int)) from c2), F56_l1] at h
      simp only [VW.down, Nat.reduceEqDiff, reduceCtorEq, Nat.reduceAdd, Nat.reduceLeDiff, Nat.reduceLT, Nat.reduceBEq, Nat.reduceSub, EE.down]
      obtain rfl := Option.some.inj h
      exact eM [] ⟨_, rfl, rfl⟩
  · rintro _ ⟨po1, rfl, rfl⟩
    clear ho
    dsimp only at h
    simp only [VW.down, Nat.reduceEqDiff, reduceCtorEq, Nat.reduceAdd, Nat.reduceLeDiff, Nat.reduceLT, Nat.reduceBEq, Nat.reduceSub, EE.down]
    obtain rfl := Option.some.inj h
    exact eF []

/- slices.ContainsFunc[[]orchestrator/api.Node,orchestrator/api.Node] -/
def F32 (x0 : (List Node)) : Option (Bool) := (F56 x0).bind fun t1 => some (decide (0 ≤ t1))
def a32 : AFn := ⟨9, [(.tmp 4)],
 (.seq (.reg [⟨(some 4), none, .mv (kB false), [], (.new [])⟩])
 (.seq (.reg [⟨(some 5), none, .mv (.t 0), [], (.new [])⟩,
   ⟨(some 6), none, .mv (.t 1), [], (.new [])⟩,
   ⟨(some 7), none, .call 56 [(.t 5), (.t 6)], [], (.new [])⟩,
   ⟨(some 8), none, .bin .geq (.t 7) (kI 0), [], (.new [])⟩,
   ⟨(some 4), none, .mv (.t 8), [], (.new [])⟩])
 .ret))⟩
theorem a32_ok : afn Try.prog 32 = some a32.er := by kernel_rfl
theorem F32_ok {x0 : (List Node)} {r : Bool} (h : F32 x0 = some r) : CallD Try.prog 32 [.c (.d (.sl (x0.map eNode))), .c (.fn 33 [])] [] (tupV [.c (.d (.v (.bool r)))]) [] := by
  refine callS a32_ok (by simp [a32]) ?_
  rw [F32] at h
  simp only [a32, VW.down, Nat.reduceEqDiff, reduceCtorEq, Nat.reduceAdd, Nat.reduceLeDiff, Nat.reduceLT, Nat.reduceBEq, Nat.reduceSub, EE.down]
  obtain ⟨t1, ht1, h⟩ := Option.bind_eq_some_iff.1 h
  refine callX_n [] (F56_ok ht1) ?_ ?_ ?_ ?_ ?_ ?_
  · first | rfl | simp [nrmA, nrmC, nrm, A1.ren, C.ren, rn, List.length_set]
  · simp [liveAll, A1.live, C.live]
  · rfl
  · decide
  · exact trivial
  simp only [VW.down, Nat.reduceEqDiff, reduceCtorEq, Nat.reduceAdd, Nat.reduceLeDiff, Nat.reduceLT, Nat.reduceBEq, Nat.reduceSub, EE.down]
  obtain rfl := Option.some.inj h
  exact eF []

/- orchestrator/nodelife.find$1 -/
def F65 (x0 : Node) (b0 : Pod) : Option (Unit) := some (())
def a65 : AFn := ⟨11, [(.tmp 3)],
 (.seq (.reg [⟨(some 2), none, .box (.t 0), [], (.new [])⟩,
   ⟨(some 3), none, .mv (kB false), [], (.new [])⟩])
 (.seq (.reg [⟨(some 4), none, .fieldA 0 (.t 2), [], (.new [])⟩,
   ⟨(some 5), none, .fieldA 2 (.t 4), [], (.new [])⟩,
   ⟨(some 6), none, .load none (.t 5), [], (.new [])⟩,
   ⟨(some 7), none, .fieldA 13 (.t 1), [], (.new [])⟩,
   ⟨(some 8), none, .fieldA 0 (.t 7), [], (.new [])⟩,
   ⟨(some 9), none, .load none (.t 8), [], (.new [])⟩,
   ⟨(some 10), none, .bin .eql (.t 6) (.t 9), [], (.new [])⟩,
   ⟨(some 3), none, .mv (.t 10), [], (.new [])⟩])
 .ret))⟩
theorem a65_ok : afn Try.prog 65 = some a65.er := by kernel_rfl
theorem F65_ok {x0 : Node} {b0 : Pod} {r : Unit} (h : F65 x0 b0 = some r) : CallD Try.prog 65 [.agg [.d (.v (.string x0.Meta.Kind)), .d (.v (.string x0.Meta.Namespace)), .d (.v (.string x0.Meta.Name)), .d (.v (.int .i64 x0.Meta.Uid)), .d (.v (.int .i64 x0.Meta.Version)), .d (.v (.int .i64 x0.Meta.Generation)), .d (.v (.int .i64 x0.Meta.Created)), .d (.v (.bool x0.Meta.Deleting)), .d (.v (.int .i64 x0.Meta.DeleteAt)), .d (.sl (x0.Meta.Labels.map eLabel)), .d (.sl (x0.Meta.Owners.map eOwner)), .d (.sl (x0.Meta.Finalizers.map eS)), .d (.sl (x0.Meta.Managers.map eManager)), .d (.v (.int .i64 x0.Capacity.CPU)), .d (.v (.int .i64 x0.Capacity.Memory)), .d (.v (.int .i64 x0.Capacity.Disk)), .d (.v (.int .i64 x0.MaxPods)), .d (.v (.bool x0.Cordoned)), .d (.sl (x0.Taints.map eTaint)), .d (.v (.bool x0.Ready)), .d (.v (.int .i64 x0.Beat)), .d (.v (.bool x0.LowMem)), .d (.v (.bool x0.LowDisk)), .d (.sl (x0.Images.map eImage))], .c (.pt 0 0)] [some (.box [.d (.v (.string b0.Meta.Kind)), .d (.v (.string b0.Meta.Namespace)), .d (.v (.string b0.Meta.Name)), .d (.v (.int .i64 b0.Meta.Uid)), .d (.v (.int .i64 b0.Meta.Version)), .d (.v (.int .i64 b0.Meta.Generation)), .d (.v (.int .i64 b0.Meta.Created)), .d (.v (.bool b0.Meta.Deleting)), .d (.v (.int .i64 b0.Meta.DeleteAt)), .d (.sl (b0.Meta.Labels.map eLabel)), .d (.sl (b0.Meta.Owners.map eOwner)), .d (.sl (b0.Meta.Finalizers.map eS)), .d (.sl (b0.Meta.Managers.map eManager)), .d (.v (.string b0.Spec.Node)), .d (.v (.int .i64 b0.Spec.Priority)), .d (.v (.int .i64 b0.Spec.Restart)), .d (.v (.int .i64 b0.Spec.Grace)), .d (.sl (b0.Spec.Containers.map eContainer)), .d (.sl (b0.Spec.NodeSelector.map eRequirement)), .d (.sl (b0.Spec.NodeTerms.map eNodeTerm)), .d (.sl (b0.Spec.PodTerms.map ePodTerm)), .d (.sl (b0.Spec.Spread.map eSpreadRule)), .d (.sl (b0.Spec.Tolerations.map eToleration)), .d (.v (.int .i64 b0.Status.Phase)), .d (.v (.bool b0.Status.Ready)), .d (.v (.int .i64 b0.Status.ReadySince)), .d (.v (.int .i64 b0.Status.Started)), .d (.v (.int .i64 b0.Status.Finished)), .d (.sl (b0.Status.Containers.map eContainerStatus)), .d (.v (.int .i64 b0.Status.Address)), .d (.v (.string b0.Status.Nominated)), .d (.v (.string b0.Status.Reason))])] (tupV [.c (.d (.v (.bool (decide (x0.Meta.Name = b0.Spec.Node)))))]) [some (.box [.d (.v (.string b0.Meta.Kind)), .d (.v (.string b0.Meta.Namespace)), .d (.v (.string b0.Meta.Name)), .d (.v (.int .i64 b0.Meta.Uid)), .d (.v (.int .i64 b0.Meta.Version)), .d (.v (.int .i64 b0.Meta.Generation)), .d (.v (.int .i64 b0.Meta.Created)), .d (.v (.bool b0.Meta.Deleting)), .d (.v (.int .i64 b0.Meta.DeleteAt)), .d (.sl (b0.Meta.Labels.map eLabel)), .d (.sl (b0.Meta.Owners.map eOwner)), .d (.sl (b0.Meta.Finalizers.map eS)), .d (.sl (b0.Meta.Managers.map eManager)), .d (.v (.string b0.Spec.Node)), .d (.v (.int .i64 b0.Spec.Priority)), .d (.v (.int .i64 b0.Spec.Restart)), .d (.v (.int .i64 b0.Spec.Grace)), .d (.sl (b0.Spec.Containers.map eContainer)), .d (.sl (b0.Spec.NodeSelector.map eRequirement)), .d (.sl (b0.Spec.NodeTerms.map eNodeTerm)), .d (.sl (b0.Spec.PodTerms.map ePodTerm)), .d (.sl (b0.Spec.Spread.map eSpreadRule)), .d (.sl (b0.Spec.Tolerations.map eToleration)), .d (.v (.int .i64 b0.Status.Phase)), .d (.v (.bool b0.Status.Ready)), .d (.v (.int .i64 b0.Status.ReadySince)), .d (.v (.int .i64 b0.Status.Started)), .d (.v (.int .i64 b0.Status.Finished)), .d (.sl (b0.Status.Containers.map eContainerStatus)), .d (.v (.int .i64 b0.Status.Address)), .d (.v (.string b0.Status.Nominated)), .d (.v (.string b0.Status.Reason))])] := by
  refine callS a65_ok (by simp [a65]) ?_
  rw [F65] at h
  simp only [a65, VW.down, Nat.reduceEqDiff, reduceCtorEq, Nat.reduceAdd, Nat.reduceLeDiff, Nat.reduceLT, Nat.reduceBEq, Nat.reduceSub, EE.down]
  obtain rfl := Option.some.inj h
  exact eF [some 0]

/- slices.IndexFunc[[]orchestrator/api.Node,orchestrator/api.Node] -/
def F56v1_l1 (b0 : Pod) : List Node → Nat → Option ((Int) ⊕ (Unit))
  | [], o1_0 => some (Sum.inr (()))
  | xo1 :: xs, o1_0 => (F65 xo1 b0).bind fun t3 => (if xo1.Meta.Name = b0.Spec.Node then (some ((o1_0 : Int))).map Sum.inl else F56v1_l1 b0 xs (o1_0 + 1))
def F56v1 (x0 : (List Node)) (b0 : Pod) : Option (Int) := (((ck (0 ≤ x0.length ∧ x0.length ≤ 4294967290)).bind fun u5 => F56v1_l1 b0 x0 0).bind fun o1 => match o1 with | Sum.inl f => some f | Sum.inr po1 => some ((-1)))
def a56v1 : AFn := ⟨19, [(.tmp 4)],
 (.seq (.reg [⟨(some 4), none, .mv (kI 0), [], (.new [])⟩])
 (.seq (.seq (.reg [⟨(some 6), none, .mv (.t 0), [], (.new [])⟩,
   ⟨(some 7), none, .len (.t 6), [], (.new [])⟩,
   ⟨(some 8), none, .mv (kI 0), [], (.new [])⟩])
 (.sem (.block 0 (.loop (.seq (.reg [⟨(some 9), none, .bin .lss (.t 8) (.t 7), [], (.new [])⟩])
 (.seq (.cond (.t 9)
 .skip
 (.exit 0))
 (.seq (.block 1 (.seq (.reg [⟨(some 10), none, .mv (.t 8), [], (.new [])⟩,
   ⟨(some 5), none, .mv (.t 10), [], (.new [])⟩])
 (.seq (.reg [⟨(some 11), none, .mv (.t 1), [], (.new [])⟩,
   ⟨(some 12), none, .mv (.t 0), [], (.new [])⟩,
   ⟨(some 13), none, .mv (.t 5), [], (.new [])⟩,
   ⟨(some 14), none, .indexA 24 (.t 12) (.t 13), [], (.new [])⟩,
   ⟨(some 15), none, .load (some 24) (.t 14), [], (.new [])⟩,
   ⟨(some 16), none, .callv (.t 11) [(.t 15)], [], (.lone [12, 14])⟩])
 (.cond (.t 16)
 (.seq (.reg [⟨(some 17), none, .mv (.t 5), [], (.new [])⟩,
   ⟨(some 4), none, .mv (.t 17), [], (.new [])⟩])
 .ret)
 .skip))))
 (.reg [⟨(some 18), none, .bin .add (.t 8) (kI 1), [], (.new [])⟩,
   ⟨(some 8), none, .mv (.t 18), [], (.new [])⟩]))))))))
 (.seq (.reg [⟨(some 4), none, .mv (kI (-1)), [], (.new [])⟩])
 .ret)))⟩
theorem a56v1_ok : afn Try.prog 56 = some a56v1.er := by kernel_rfl
theorem F56v1_ok {x0 : (List Node)} {b0 : Pod} {r : Int} (h : F56v1 x0 b0 = some r) : CallD Try.prog 56 [.c (.d (.sl (x0.map eNode))), .c (.fn 65 [(0, 0)])] [some (.box [.d (.v (.string b0.Meta.Kind)), .d (.v (.string b0.Meta.Namespace)), .d (.v (.string b0.Meta.Name)), .d (.v (.int .i64 b0.Meta.Uid)), .d (.v (.int .i64 b0.Meta.Version)), .d (.v (.int .i64 b0.Meta.Generation)), .d (.v (.int .i64 b0.Meta.Created)), .d (.v (.bool b0.Meta.Deleting)), .d (.v (.int .i64 b0.Meta.DeleteAt)), .d (.sl (b0.Meta.Labels.map eLabel)), .d (.sl (b0.Meta.Owners.map eOwner)), .d (.sl (b0.Meta.Finalizers.map eS)), .d (.sl (b0.Meta.Managers.map eManager)), .d (.v (.string b0.Spec.Node)), .d (.v (.int .i64 b0.Spec.Priority)), .d (.v (.int .i64 b0.Spec.Restart)), .d (.v (.int .i64 b0.Spec.Grace)), .d (.sl (b0.Spec.Containers.map eContainer)), .d (.sl (b0.Spec.NodeSelector.map eRequirement)), .d (.sl (b0.Spec.NodeTerms.map eNodeTerm)), .d (.sl (b0.Spec.PodTerms.map ePodTerm)), .d (.sl (b0.Spec.Spread.map eSpreadRule)), .d (.sl (b0.Spec.Tolerations.map eToleration)), .d (.v (.int .i64 b0.Status.Phase)), .d (.v (.bool b0.Status.Ready)), .d (.v (.int .i64 b0.Status.ReadySince)), .d (.v (.int .i64 b0.Status.Started)), .d (.v (.int .i64 b0.Status.Finished)), .d (.sl (b0.Status.Containers.map eContainerStatus)), .d (.v (.int .i64 b0.Status.Address)), .d (.v (.string b0.Status.Nominated)), .d (.v (.string b0.Status.Reason))])] (tupV [.c (.d (.v (.int .i64 r)))]) [some (.box [.d (.v (.string b0.Meta.Kind)), .d (.v (.string b0.Meta.Namespace)), .d (.v (.string b0.Meta.Name)), .d (.v (.int .i64 b0.Meta.Uid)), .d (.v (.int .i64 b0.Meta.Version)), .d (.v (.int .i64 b0.Meta.Generation)), .d (.v (.int .i64 b0.Meta.Created)), .d (.v (.bool b0.Meta.Deleting)), .d (.v (.int .i64 b0.Meta.DeleteAt)), .d (.sl (b0.Meta.Labels.map eLabel)), .d (.sl (b0.Meta.Owners.map eOwner)), .d (.sl (b0.Meta.Finalizers.map eS)), .d (.sl (b0.Meta.Managers.map eManager)), .d (.v (.string b0.Spec.Node)), .d (.v (.int .i64 b0.Spec.Priority)), .d (.v (.int .i64 b0.Spec.Restart)), .d (.v (.int .i64 b0.Spec.Grace)), .d (.sl (b0.Spec.Containers.map eContainer)), .d (.sl (b0.Spec.NodeSelector.map eRequirement)), .d (.sl (b0.Spec.NodeTerms.map eNodeTerm)), .d (.sl (b0.Spec.PodTerms.map ePodTerm)), .d (.sl (b0.Spec.Spread.map eSpreadRule)), .d (.sl (b0.Spec.Tolerations.map eToleration)), .d (.v (.int .i64 b0.Status.Phase)), .d (.v (.bool b0.Status.Ready)), .d (.v (.int .i64 b0.Status.ReadySince)), .d (.v (.int .i64 b0.Status.Started)), .d (.v (.int .i64 b0.Status.Finished)), .d (.sl (b0.Status.Containers.map eContainerStatus)), .d (.v (.int .i64 b0.Status.Address)), .d (.v (.string b0.Status.Nominated)), .d (.v (.string b0.Status.Reason))])] := by
  refine callS a56v1_ok (by simp [a56v1]) ?_
  rw [F56v1] at h
  simp only [a56v1, VW.down, Nat.reduceEqDiff, reduceCtorEq, Nat.reduceAdd, Nat.reduceLeDiff, Nat.reduceLT, Nat.reduceBEq, Nat.reduceSub, EE.down]
  obtain ⟨o1, ho, h⟩ := Option.bind_eq_some_iff.1 h
  refine cutS (fun s => ∃ po1, o1 = Sum.inr po1 ∧ s = ⟨[], [some (.box [.d (.v (.string b0.Meta.Kind)), .d (.v (.string b0.Meta.Namespace)), .d (.v (.string b0.Meta.Name)), .d (.v (.int .i64 b0.Meta.Uid)), .d (.v (.int .i64 b0.Meta.Version)), .d (.v (.int .i64 b0.Meta.Generation)), .d (.v (.int .i64 b0.Meta.Created)), .d (.v (.bool b0.Meta.Deleting)), .d (.v (.int .i64 b0.Meta.DeleteAt)), .d (.sl (b0.Meta.Labels.map eLabel)), .d (.sl (b0.Meta.Owners.map eOwner)), .d (.sl (b0.Meta.Finalizers.map eS)), .d (.sl (b0.Meta.Managers.map eManager)), .d (.v (.string b0.Spec.Node)), .d (.v (.int .i64 b0.Spec.Priority)), .d (.v (.int .i64 b0.Spec.Restart)), .d (.v (.int .i64 b0.Spec.Grace)), .d (.sl (b0.Spec.Containers.map eContainer)), .d (.sl (b0.Spec.NodeSelector.map eRequirement)), .d (.sl (b0.Spec.NodeTerms.map eNodeTerm)), .d (.sl (b0.Spec.PodTerms.map ePodTerm)), .d (.sl (b0.Spec.Spread.map eSpreadRule)), .d (.sl (b0.Spec.Tolerations.map eToleration)), .d (.v (.int .i64 b0.Status.Phase)), .d (.v (.bool b0.Status.Ready)), .d (.v (.int .i64 b0.Status.ReadySince)), .d (.v (.int .i64 b0.Status.Started)), .d (.v (.int .i64 b0.Status.Finished)), .d (.sl (b0.Status.Containers.map eContainerStatus)), .d (.v (.int .i64 b0.Status.Address)), .d (.v (.string b0.Status.Nominated)), .d (.v (.string b0.Status.Reason))])]⟩) ?_ ?_
  · have h0o1 := h
    have h := ho
    clear ho
    obtain ⟨_, hk, h⟩ := Option.bind_eq_some_iff.1 h
    have hk := ck_some hk
    simp only [VW.down, Nat.reduceEqDiff, reduceCtorEq, Nat.reduceAdd, Nat.reduceLeDiff, Nat.reduceLT, Nat.reduceBEq, Nat.reduceSub, EE.down]
    refine bL (fun j s => ∃ (o1_0 : Nat), (o1_0 ≤ x0.length ∧ j = x0.length - o1_0) ∧ s = ⟨[(0, .one (.c (.d (.sl (x0.map eNode))))), (1, .one (.c (.fn 65 [(0, 0)]))), (7, .one (.c (.d (.v (.int .i64 ((x0.length : Int))))))), (8, .one (.c (.d (.v (.int .i64 ((o1_0 : Int)))))))], [some (.box [.d (.v (.string b0.Meta.Kind)), .d (.v (.string b0.Meta.Namespace)), .d (.v (.string b0.Meta.Name)), .d (.v (.int .i64 b0.Meta.Uid)), .d (.v (.int .i64 b0.Meta.Version)), .d (.v (.int .i64 b0.Meta.Generation)), .d (.v (.int .i64 b0.Meta.Created)), .d (.v (.bool b0.Meta.Deleting)), .d (.v (.int .i64 b0.Meta.DeleteAt)), .d (.sl (b0.Meta.Labels.map eLabel)), .d (.sl (b0.Meta.Owners.map eOwner)), .d (.sl (b0.Meta.Finalizers.map eS)), .d (.sl (b0.Meta.Managers.map eManager)), .d (.v (.string b0.Spec.Node)), .d (.v (.int .i64 b0.Spec.Priority)), .d (.v (.int .i64 b0.Spec.Restart)), .d (.v (.int .i64 b0.Spec.Grace)), .d (.sl (b0.Spec.Containers.map eContainer)), .d (.sl (b0.Spec.NodeSelector.map eRequirement)), .d (.sl (b0.Spec.NodeTerms.map eNodeTerm)), .d (.sl (b0.Spec.PodTerms.map ePodTerm)), .d (.sl (b0.Spec.Spread.map eSpreadRule)), .d (.sl (b0.Spec.Tolerations.map eToleration)), .d (.v (.int .i64 b0.Status.Phase)), .d (.v (.bool b0.Status.Ready)), .d (.v (.int .i64 b0.Status.ReadySince)), .d (.v (.int .i64 b0.Status.Started)), .d (.v (.int .i64 b0.Status.Finished)), .d (.sl (b0.Status.Containers.map eContainerStatus)), .d (.v (.int .i64 b0.Status.Address)), .d (.v (.string b0.Status.Nominated)), .d (.v (.string b0.Status.Reason))])]⟩ ∧ F56v1_l1 b0 (x0.drop o1_0) o1_0 = some o1) (x0.length - 0) [some 0] ⟨0, ⟨hk.1, rfl⟩, rfl, h⟩ ?_
    rintro _ _ ⟨o1_0, ⟨hi, rfl⟩, rfl, h⟩
    simp only [VW.down, Nat.reduceEqDiff, reduceCtorEq, Nat.reduceAdd, Nat.reduceLeDiff, Nat.reduceLT, Nat.reduceBEq, Nat.reduceSub, EE.down]
    refine condS (fun c2 => ?_) (fun c2 => ?_)
    · obtain ⟨xo1, hxo1, hd⟩ := countY (show (o1_0 : Int) < (x0.length : Int) from c2)
      rw [hd, F56v1_l1] at h
      simp only [VW.down, Nat.reduceEqDiff, reduceCtorEq, Nat.reduceAdd, Nat.reduceLeDiff, Nat.reduceLT, Nat.reduceBEq, Nat.reduceSub, EE.down]
      refine t_idxF (enc := eNode) (xs := x0) rfl rfl hxo1 rfl ?_
      simp only [VW.down, Nat.reduceEqDiff, reduceCtorEq, Nat.reduceAdd, Nat.reduceLeDiff, Nat.reduceLT, Nat.reduceBEq, Nat.reduceSub, EE.down]
      obtain ⟨t3, ht3, h⟩ := Option.bind_eq_some_iff.1 h
      refine callX_n [0] (F65_ok ht3) ?_ ?_ ?_ ?_ ?_ ?_
      · first | rfl | simp [nrmA, nrmC, nrm, A1.ren, C.ren, rn, List.length_set]
      · simp [liveAll, A1.live, C.live, hp]
      · rfl
      · decide
      · exact ⟨⟨rfl, by simp [Blk.live, C.live, hp]⟩, trivial⟩
      simp only [VW.down, Nat.reduceEqDiff, reduceCtorEq, Nat.reduceAdd, Nat.reduceLeDiff, Nat.reduceLT, Nat.reduceBEq, Nat.reduceSub, EE.down]
      refine condS (fun c4 => ?_) (fun c4 => ?_)
      · have h := (if_pos c4).symm.trans h
        simp only [VW.down, Nat.reduceEqDiff, reduceCtorEq, Nat.reduceAdd, Nat.reduceLeDiff, Nat.reduceLT, Nat.reduceBEq, Nat.reduceSub, EE.down]
        obtain ⟨fh0o1, hfh0o1, rfl⟩ := Option.map_eq_some_iff.1 h
        have h := hfh0o1.trans h0o1
        obtain rfl := Option.some.inj h
        exact eF [some 0]
      · have h := (if_neg c4).symm.trans h
        simp only [VW.down, Nat.reduceEqDiff, reduceCtorEq, Nat.reduceAdd, Nat.reduceLeDiff, Nat.reduceLT, Nat.reduceBEq, Nat.reduceSub, EE.down]
        rw [wrapN (by omega)]
        exact eL' (x0.length - (o1_0 + 1)) [some 0] ⟨o1_0 + 1, ⟨by omega, rfl⟩, rfl, h⟩ (by omega)
    · rw [countN (show ¬ ((o1_0 : Int) < (x0.length : Int)) from c2), F56v1_l1] at h
      simp only [VW.down, Nat.reduceEqDiff, reduceCtorEq, Nat.reduceAdd, Nat.reduceLeDiff, Nat.reduceLT, Nat.reduceBEq, Nat.reduceSub, EE.down]
      obtain rfl := Option.some.inj h
      exact eM [some 0] ⟨_, rfl, rfl⟩
  · rintro _ ⟨po1, rfl, rfl⟩
    clear ho
    dsimp only at h
    simp only [VW.down, Nat.reduceEqDiff, reduceCtorEq, Nat.reduceAdd, Nat.reduceLeDiff, Nat.reduceLT, Nat.reduceBEq, Nat.reduceSub, EE.down]
    obtain rfl := Option.some.inj h
    exact eF [some 0]

/- orchestrator/nodelife.find -/
def F43 (x0 : (List Node)) (x1 : Pod) : Option (Node × Bool) := (F56v1 x0 x1).bind fun t1 => (((if x1.Spec.Node = (⟨#[]⟩ : ByteArray) then some true else some (decide (t1 < 0)))).bind fun o2 => (if o2 = true then some (((⟨(⟨(⟨#[]⟩ : ByteArray), (⟨#[]⟩ : ByteArray), (⟨#[]⟩ : ByteArray), 0, 0, 0, 0, false, 0, [], [], [], []⟩ : Meta), (⟨0, 0, 0⟩ : Resources), 0, false, [], false, 0, false, false, []⟩ : Node), false)) else (rdI x0 t1).bind fun y5 => some ((y5, true))))
def a43 : AFn := ⟨23, [(.cell 4 (some 24)), (.tmp 5)],
 (.seq (.reg [⟨(some 3), none, .box (.t 1), [], (.new [])⟩,
   ⟨(some 4), none, .zbox [.d (.v (.string ⟨#[]⟩)), .d (.v (.string ⟨#[]⟩)), .d (.v (.string ⟨#[]⟩)), .d (.v (.int .i64 0)), .d (.v (.int .i64 0)), .d (.v (.int .i64 0)), .d (.v (.int .i64 0)), .d (.v (.bool false)), .d (.v (.int .i64 0)), .d (.v (.slice none 0 0)), .d (.v (.slice none 0 0)), .d (.v (.slice none 0 0)), .d (.v (.slice none 0 0)), .d (.v (.int .i64 0)), .d (.v (.int .i64 0)), .d (.v (.int .i64 0)), .d (.v (.int .i64 0)), .d (.v (.bool false)), .d (.v (.slice none 0 0)), .d (.v (.bool false)), .d (.v (.int .i64 0)), .d (.v (.bool false)), .d (.v (.bool false)), .d (.v (.slice none 0 0))], [], (.new [])⟩,
   ⟨(some 5), none, .mv (kB false), [], (.new [])⟩])
 (.seq (.reg [⟨(some 7), none, .mv (.t 0), [], (.new [])⟩,
   ⟨(some 8), none, .fn 65 [(.t 3)], [], (.new [])⟩,
   ⟨(some 9), none, .call 56 [(.t 7), (.t 8)], [], (.new [])⟩,
   ⟨(some 6), none, .mv (.t 9), [], (.new [])⟩])
 (.seq (.seq (.sem (.reg [⟨(some 10), none, .fieldA 13 (.t 3), [], (.new [])⟩,
   ⟨(some 11), none, .fieldA 0 (.t 10), [], (.new [])⟩,
   ⟨(some 12), none, .load none (.t 11), [], (.new [])⟩,
   ⟨(some 13), none, .bin .eql (.t 12) (kS ⟨#[]⟩), [], (.new [])⟩,
   ⟨(some 14), none, .mv (.t 13), [], (.new [])⟩,
   ⟨(some 15), (some (14, false)), .mv (.t 6), [], (.new [])⟩,
   ⟨(some 16), (some (14, false)), .bin .lss (.t 15) (kI 0), [], (.new [])⟩,
   ⟨(some 17), none, .pick (.t 14) (kB true) (.t 16), [], (.lone [3, 10, 11])⟩]))
 (.cond (.t 17)
 (.seq (.reg [⟨(some 18), none, .build [.d (.v (.string ⟨#[]⟩)), .d (.v (.string ⟨#[]⟩)), .d (.v (.string ⟨#[]⟩)), .d (.v (.int .i64 0)), .d (.v (.int .i64 0)), .d (.v (.int .i64 0)), .d (.v (.int .i64 0)), .d (.v (.bool false)), .d (.v (.int .i64 0)), .d (.v (.slice none 0 0)), .d (.v (.slice none 0 0)), .d (.v (.slice none 0 0)), .d (.v (.slice none 0 0)), .d (.v (.int .i64 0)), .d (.v (.int .i64 0)), .d (.v (.int .i64 0)), .d (.v (.int .i64 0)), .d (.v (.bool false)), .d (.v (.slice none 0 0)), .d (.v (.bool false)), .d (.v (.int .i64 0)), .d (.v (.bool false)), .d (.v (.bool false)), .d (.v (.slice none 0 0))] [], [], (.new [])⟩,
   ⟨none, none, .store 24 (.t 4) (.t 18), [], (.new [])⟩,
   ⟨(some 5), none, .mv (kB false), [], (.new [])⟩])
 .ret)
 .skip))
 (.seq (.reg [⟨(some 19), none, .mv (.t 0), [], (.new [])⟩,
   ⟨(some 20), none, .mv (.t 6), [], (.new [])⟩,
   ⟨(some 21), none, .indexA 24 (.t 19) (.t 20), [], (.new [])⟩,
   ⟨(some 22), none, .load (some 24) (.t 21), [], (.new [])⟩,
   ⟨none, none, .store 24 (.t 4) (.t 22), [], (.new [])⟩,
   ⟨(some 5), none, .mv (kB true), [], (.new [])⟩])
 .ret))))⟩
theorem a43_ok : afn Try.prog 43 = some a43.er := by kernel_rfl
theorem F43_ok {x0 : (List Node)} {x1 : Pod} {r : Node × Bool} (h : F43 x0 x1 = some r) : CallD Try.prog 43 [.c (.d (.sl (x0.map eNode))), .agg [.d (.v (.string x1.Meta.Kind)), .d (.v (.string x1.Meta.Namespace)), .d (.v (.string x1.Meta.Name)), .d (.v (.int .i64 x1.Meta.Uid)), .d (.v (.int .i64 x1.Meta.Version)), .d (.v (.int .i64 x1.Meta.Generation)), .d (.v (.int .i64 x1.Meta.Created)), .d (.v (.bool x1.Meta.Deleting)), .d (.v (.int .i64 x1.Meta.DeleteAt)), .d (.sl (x1.Meta.Labels.map eLabel)), .d (.sl (x1.Meta.Owners.map eOwner)), .d (.sl (x1.Meta.Finalizers.map eS)), .d (.sl (x1.Meta.Managers.map eManager)), .d (.v (.string x1.Spec.Node)), .d (.v (.int .i64 x1.Spec.Priority)), .d (.v (.int .i64 x1.Spec.Restart)), .d (.v (.int .i64 x1.Spec.Grace)), .d (.sl (x1.Spec.Containers.map eContainer)), .d (.sl (x1.Spec.NodeSelector.map eRequirement)), .d (.sl (x1.Spec.NodeTerms.map eNodeTerm)), .d (.sl (x1.Spec.PodTerms.map ePodTerm)), .d (.sl (x1.Spec.Spread.map eSpreadRule)), .d (.sl (x1.Spec.Tolerations.map eToleration)), .d (.v (.int .i64 x1.Status.Phase)), .d (.v (.bool x1.Status.Ready)), .d (.v (.int .i64 x1.Status.ReadySince)), .d (.v (.int .i64 x1.Status.Started)), .d (.v (.int .i64 x1.Status.Finished)), .d (.sl (x1.Status.Containers.map eContainerStatus)), .d (.v (.int .i64 x1.Status.Address)), .d (.v (.string x1.Status.Nominated)), .d (.v (.string x1.Status.Reason))]] [] (tupV [.agg [.d (.v (.string ((r.1).Meta.Kind))), .d (.v (.string ((r.1).Meta.Namespace))), .d (.v (.string ((r.1).Meta.Name))), .d (.v (.int .i64 ((r.1).Meta.Uid))), .d (.v (.int .i64 ((r.1).Meta.Version))), .d (.v (.int .i64 ((r.1).Meta.Generation))), .d (.v (.int .i64 ((r.1).Meta.Created))), .d (.v (.bool ((r.1).Meta.Deleting))), .d (.v (.int .i64 ((r.1).Meta.DeleteAt))), .d (.sl (((r.1).Meta.Labels).map eLabel)), .d (.sl (((r.1).Meta.Owners).map eOwner)), .d (.sl (((r.1).Meta.Finalizers).map eS)), .d (.sl (((r.1).Meta.Managers).map eManager)), .d (.v (.int .i64 ((r.1).Capacity.CPU))), .d (.v (.int .i64 ((r.1).Capacity.Memory))), .d (.v (.int .i64 ((r.1).Capacity.Disk))), .d (.v (.int .i64 ((r.1).MaxPods))), .d (.v (.bool ((r.1).Cordoned))), .d (.sl (((r.1).Taints).map eTaint)), .d (.v (.bool ((r.1).Ready))), .d (.v (.int .i64 ((r.1).Beat))), .d (.v (.bool ((r.1).LowMem))), .d (.v (.bool ((r.1).LowDisk))), .d (.sl (((r.1).Images).map eImage))], .c (.d (.v (.bool r.2)))]) [] := by
  refine callS a43_ok (by simp [a43]) ?_
  rw [F43] at h
  simp only [a43, VW.down, Nat.reduceEqDiff, reduceCtorEq, Nat.reduceAdd, Nat.reduceLeDiff, Nat.reduceLT, Nat.reduceBEq, Nat.reduceSub, EE.down]
  obtain ⟨t1, ht1, h⟩ := Option.bind_eq_some_iff.1 h
  refine callX_n [0] (F56v1_ok ht1) ?_ ?_ ?_ ?_ ?_ ?_
  · first | rfl | simp [nrmA, nrmC, nrm, A1.ren, C.ren, rn, List.length_set]
  · simp [liveAll, A1.live, C.live, hp]
  · rfl
  · decide
  · exact ⟨⟨rfl, by simp [Blk.live, C.live, hp]⟩, trivial⟩
  simp only [VW.down, Nat.reduceEqDiff, reduceCtorEq, Nat.reduceAdd, Nat.reduceLeDiff, Nat.reduceLT, Nat.reduceBEq, Nat.reduceSub, EE.down]
  obtain ⟨o2, ho, h⟩ := Option.bind_eq_some_iff.1 h
  refine cutS (fun s => s = ⟨[(0, .one (.c (.d (.sl (x0.map eNode))))), (4, .one (.c (.pt 0 0))), (6, .one (.c (.d (.v (.int .i64 t1))))), (17, .one (.c (.d (.v (.bool o2)))))], [some (.box [.d (.v (.string ((⟨#[]⟩ : ByteArray)))), .d (.v (.string ((⟨#[]⟩ : ByteArray)))), .d (.v (.string ((⟨#[]⟩ : ByteArray)))), .d (.v (.int .i64 0)), .d (.v (.int .i64 0)), .d (.v (.int .i64 0)), .d (.v (.int .i64 0)), .d (.v (.bool false)), .d (.v (.int .i64 0)), .d (.v (.slice none 0 0)), .d (.v (.slice none 0 0)), .d (.v (.slice none 0 0)), .d (.v (.slice none 0 0)), .d (.v (.int .i64 0)), .d (.v (.int .i64 0)), .d (.v (.int .i64 0)), .d (.v (.int .i64 0)), .d (.v (.bool false)), .d (.v (.slice none 0 0)), .d (.v (.bool false)), .d (.v (.int .i64 0)), .d (.v (.bool false)), .d (.v (.bool false)), .d (.v (.slice none 0 0))])]⟩) ?_ ?_
  · have h := ho
    clear ho
    simp only [VW.down, Nat.reduceEqDiff, reduceCtorEq, Nat.reduceAdd, Nat.reduceLeDiff, Nat.reduceLT, Nat.reduceBEq, Nat.reduceSub, EE.down]
    refine guardS (fun g3 => ?_) (fun g3 => ?_)
    · have h := (if_pos g3).symm.trans h
      simp only [VW.down, Nat.reduceEqDiff, reduceCtorEq, Nat.reduceAdd, Nat.reduceLeDiff, Nat.reduceLT, Nat.reduceBEq, Nat.reduceSub, EE.down]
      obtain rfl := Option.some.inj h
      exact eM [some 1] rfl
    · have h := (if_neg g3).symm.trans h
      simp only [VW.down, Nat.reduceEqDiff, reduceCtorEq, Nat.reduceAdd, Nat.reduceLeDiff, Nat.reduceLT, Nat.reduceBEq, Nat.reduceSub, EE.down]
      obtain rfl := Option.some.inj h
      exact eM [some 1] rfl
  · rintro _ rfl
    clear ho
    simp only [VW.down, Nat.reduceEqDiff, reduceCtorEq, Nat.reduceAdd, Nat.reduceLeDiff, Nat.reduceLT, Nat.reduceBEq, Nat.reduceSub, EE.down]
    refine condB (fun c4 => ?_) (fun c4 => ?_)
    · have h := (if_pos c4).symm.trans h
      simp only [VW.down, Nat.reduceEqDiff, reduceCtorEq, Nat.reduceAdd, Nat.reduceLeDiff, Nat.reduceLT, Nat.reduceBEq, Nat.reduceSub, EE.down]
      obtain rfl := Option.some.inj h
      exact eF []
    · have h := (if_neg c4).symm.trans h
      simp only [VW.down, Nat.reduceEqDiff, reduceCtorEq, Nat.reduceAdd, Nat.reduceLeDiff, Nat.reduceLT, Nat.reduceBEq, Nat.reduceSub, EE.down]
      obtain ⟨y5, hy5, h⟩ := Option.bind_eq_some_iff.1 h
      refine t_idxF (enc := eNode) (xs := x0) rfl rfl hy5 rfl ?_
      simp only [VW.down, Nat.reduceEqDiff, reduceCtorEq, Nat.reduceAdd, Nat.reduceLeDiff, Nat.reduceLT, Nat.reduceBEq, Nat.reduceSub, EE.down]
      obtain rfl := Option.some.inj h
      exact eF []

/- orchestrator/meta.Controller -/
def F59_l1  : List Owner → Nat → Option ((Owner × Bool) ⊕ (Unit))
  | [], o1_0 => some (Sum.inr (()))
  | xo1 :: xs, o1_0 => (if xo1.Controller = true then (some ((xo1, true))).map Sum.inl else F59_l1  xs (o1_0 + 1))
def F59 (x0 : Meta) : Option (Owner × Bool) := (((ck (0 ≤ x0.Owners.length ∧ x0.Owners.length ≤ 4294967290)).bind fun u4 => F59_l1 x0.Owners 0).bind fun o1 => match o1 with | Sum.inl f => some f | Sum.inr po1 => some (((⟨(⟨#[]⟩ : ByteArray), (⟨#[]⟩ : ByteArray), 0, false, false⟩ : Owner), false)))
def a59 : AFn := ⟨18, [(.cell 2 (some 5)), (.tmp 3)],
 (.seq (.reg [⟨(some 1), none, .box (.t 0), [], (.new [])⟩,
   ⟨(some 2), none, .zbox [.d (.v (.string ⟨#[]⟩)), .d (.v (.string ⟨#[]⟩)), .d (.v (.int .i64 0)), .d (.v (.bool false)), .d (.v (.bool false))], [], (.new [])⟩,
   ⟨(some 3), none, .mv (kB false), [], (.new [])⟩])
 (.seq (.seq (.reg [⟨(some 6), none, .fieldA 10 (.t 1), [], (.new [])⟩,
   ⟨(some 7), none, .load none (.t 6), [], (.new [])⟩,
   ⟨(some 8), none, .len (.t 7), [], (.new [])⟩,
   ⟨(some 9), none, .mv (kI 0), [], (.new [])⟩])
 (.sem (.block 0 (.loop (.seq (.reg [⟨(some 10), none, .bin .lss (.t 9) (.t 8), [], (.new [])⟩])
 (.seq (.cond (.t 10)
 .skip
 (.exit 0))
 (.seq (.block 1 (.seq (.reg [⟨(some 11), none, .indexA 5 (.t 7) (.t 9), [], (.new [])⟩,
   ⟨(some 12), none, .load (some 5) (.t 11), [], (.new [])⟩,
   ⟨(some 5), none, .zbox [.d (.v (.string ⟨#[]⟩)), .d (.v (.string ⟨#[]⟩)), .d (.v (.int .i64 0)), .d (.v (.bool false)), .d (.v (.bool false))], [], (.new [])⟩,
   ⟨none, none, .store 5 (.t 5) (.t 12), [], (.new [])⟩])
 (.seq (.reg [⟨(some 13), none, .fieldA 3 (.t 5), [], (.new [])⟩,
   ⟨(some 14), none, .load none (.t 13), [], (.new [])⟩])
 (.cond (.t 14)
 (.seq (.reg [⟨(some 15), none, .load (some 5) (.t 5), [], (.new [])⟩,
   ⟨none, none, .store 5 (.t 2) (.t 15), [], (.new [])⟩,
   ⟨(some 3), none, .mv (kB true), [], (.new [])⟩])
 .ret)
 .skip))))
 (.reg [⟨(some 16), none, .bin .add (.t 9) (kI 1), [], (.new [])⟩,
   ⟨(some 9), none, .mv (.t 16), [], (.new [])⟩]))))))))
 (.seq (.reg [⟨(some 17), none, .build [.d (.v (.string ⟨#[]⟩)), .d (.v (.string ⟨#[]⟩)), .d (.v (.int .i64 0)), .d (.v (.bool false)), .d (.v (.bool false))] [], [], (.new [])⟩,
   ⟨none, none, .store 5 (.t 2) (.t 17), [], (.new [])⟩,
   ⟨(some 3), none, .mv (kB false), [], (.new [])⟩])
 .ret)))⟩
theorem a59_ok : afn Try.prog 59 = some a59.er := by kernel_rfl
theorem F59_ok {x0 : Meta} {r : Owner × Bool} (h : F59 x0 = some r) : CallD Try.prog 59 [.agg [.d (.v (.string x0.Kind)), .d (.v (.string x0.Namespace)), .d (.v (.string x0.Name)), .d (.v (.int .i64 x0.Uid)), .d (.v (.int .i64 x0.Version)), .d (.v (.int .i64 x0.Generation)), .d (.v (.int .i64 x0.Created)), .d (.v (.bool x0.Deleting)), .d (.v (.int .i64 x0.DeleteAt)), .d (.sl (x0.Labels.map eLabel)), .d (.sl (x0.Owners.map eOwner)), .d (.sl (x0.Finalizers.map eS)), .d (.sl (x0.Managers.map eManager))]] [] (tupV [.agg [.d (.v (.string ((r.1).Kind))), .d (.v (.string ((r.1).Name))), .d (.v (.int .i64 ((r.1).Uid))), .d (.v (.bool ((r.1).Controller))), .d (.v (.bool ((r.1).Block)))], .c (.d (.v (.bool r.2)))]) [] := by
  refine callS a59_ok (by simp [a59]) ?_
  rw [F59] at h
  simp only [a59, VW.down, Nat.reduceEqDiff, reduceCtorEq, Nat.reduceAdd, Nat.reduceLeDiff, Nat.reduceLT, Nat.reduceBEq, Nat.reduceSub, EE.down]
  obtain ⟨o1, ho, h⟩ := Option.bind_eq_some_iff.1 h
  refine cutS (fun s => ∃ po1, o1 = Sum.inr po1 ∧ s = ⟨[(2, .one (.c (.pt 0 0)))], [some (.box [.d (.v (.string ((⟨#[]⟩ : ByteArray)))), .d (.v (.string ((⟨#[]⟩ : ByteArray)))), .d (.v (.int .i64 0)), .d (.v (.bool false)), .d (.v (.bool false))])]⟩) ?_ ?_
  · have h0o1 := h
    have h := ho
    clear ho
    obtain ⟨_, hk, h⟩ := Option.bind_eq_some_iff.1 h
    have hk := ck_some hk
    simp only [VW.down, Nat.reduceEqDiff, reduceCtorEq, Nat.reduceAdd, Nat.reduceLeDiff, Nat.reduceLT, Nat.reduceBEq, Nat.reduceSub, EE.down]
    refine bL (fun j s => ∃ (o1_0 : Nat), (o1_0 ≤ x0.Owners.length ∧ j = x0.Owners.length - o1_0) ∧ s = ⟨[(2, .one (.c (.pt 0 0))), (7, .one (.c (.d (.sl (x0.Owners.map eOwner))))), (8, .one (.c (.d (.v (.int .i64 ((x0.Owners.length : Int))))))), (9, .one (.c (.d (.v (.int .i64 ((o1_0 : Int)))))))], [some (.box [.d (.v (.string ((⟨#[]⟩ : ByteArray)))), .d (.v (.string ((⟨#[]⟩ : ByteArray)))), .d (.v (.int .i64 0)), .d (.v (.bool false)), .d (.v (.bool false))])]⟩ ∧ F59_l1 (x0.Owners.drop o1_0) o1_0 = some o1) (x0.Owners.length - 0) [some 1] ⟨0, ⟨hk.1, rfl⟩, rfl, h⟩ ?_
    rintro _ _ ⟨o1_0, ⟨hi, rfl⟩, rfl, h⟩
    simp only [VW.down, Nat.reduceEqDiff, reduceCtorEq, Nat.reduceAdd, Nat.reduceLeDiff, Nat.reduceLT, Nat.reduceBEq, Nat.reduceSub, EE.down]
    refine condS (fun c2 => ?_) (fun c2 => ?_)
    · obtain ⟨xo1, hxo1, hd⟩ := countY (show (o1_0 : Int) < (x0.Owners.length : Int) from c2)
      rw [hd, F59_l1] at h
      simp only [VW.down, Nat.reduceEqDiff, reduceCtorEq, Nat.reduceAdd, Nat.reduceLeDiff, Nat.reduceLT, Nat.reduceBEq, Nat.reduceSub, EE.down]
      refine t_idxF (enc := eOwner) (xs := x0.Owners) rfl rfl hxo1 rfl ?_
      simp only [VW.down, Nat.reduceEqDiff, reduceCtorEq, Nat.reduceAdd, Nat.reduceLeDiff, Nat.reduceLT, Nat.reduceBEq, Nat.reduceSub, EE.down]
      refine condB (fun c3 => ?_) (fun c3 => ?_)
      · have h := (if_pos c3).symm.trans h
        simp only [VW.down, Nat.reduceEqDiff, reduceCtorEq, Nat.reduceAdd, Nat.reduceLeDiff, Nat.reduceLT, Nat.reduceBEq, Nat.reduceSub, EE.down]
        obtain ⟨fh0o1, hfh0o1, rfl⟩ := Option.map_eq_some_iff.1 h
        have h := hfh0o1.trans h0o1
        obtain rfl := Option.some.inj h
        exact eF []
      · have h := (if_neg c3).symm.trans h
        simp only [VW.down, Nat.reduceEqDiff, reduceCtorEq, Nat.reduceAdd, Nat.reduceLeDiff, Nat.reduceLT, Nat.reduceBEq, Nat.reduceSub, EE.down]
        rw [wrapN (by omega)]
        exact eL' (x0.Owners.length - (o1_0 + 1)) [some 0] ⟨o1_0 + 1, ⟨by omega, rfl⟩, rfl, h⟩ (by omega)
    · rw [countN (show ¬ ((o1_0 : Int) < (x0.Owners.length : Int)) from c2), F59_l1] at h
      simp only [VW.down, Nat.reduceEqDiff, reduceCtorEq, Nat.reduceAdd, Nat.reduceLeDiff, Nat.reduceLT, Nat.reduceBEq, Nat.reduceSub, EE.down]
      obtain rfl := Option.some.inj h
      exact eM [some 0] ⟨_, rfl, rfl⟩
  · rintro _ ⟨po1, rfl, rfl⟩
    clear ho
    dsimp only at h
    simp only [VW.down, Nat.reduceEqDiff, reduceCtorEq, Nat.reduceAdd, Nat.reduceLeDiff, Nat.reduceLT, Nat.reduceBEq, Nat.reduceSub, EE.down]
    obtain rfl := Option.some.inj h
    exact eF []

/- orchestrator/taint.Tolerates -/
def F81 (x0 : Toleration) (x1 : Taint) : Option (Bool) := (((if x0.Key = (⟨#[]⟩ : ByteArray) then (if x0.Exists = true then (if x0.Effect = 0 then some true else some (decide (x0.Effect = x1.Effect))) else (if x0.Value = x1.Value then (if x0.Effect = 0 then some true else some (decide (x0.Effect = x1.Effect))) else some false)) else (if x0.Key = x1.Key then (if x0.Exists = true then (if x0.Effect = 0 then some true else some (decide (x0.Effect = x1.Effect))) else (if x0.Value = x1.Value then (if x0.Effect = 0 then some true else some (decide (x0.Effect = x1.Effect))) else some false)) else some false))).bind fun o1 => some o1)
def a81 : AFn := ⟨38, [(.tmp 4)],
 (.seq (.reg [⟨(some 2), none, .box (.t 0), [], (.new [])⟩,
   ⟨(some 3), none, .box (.t 1), [], (.new [])⟩,
   ⟨(some 4), none, .mv (kB false), [], (.new [])⟩])
 (.seq (.sem (.reg [⟨(some 5), none, .fieldA 0 (.t 2), [], (.new [])⟩,
   ⟨(some 6), none, .load none (.t 5), [], (.new [])⟩,
   ⟨(some 7), none, .bin .eql (.t 6) (kS ⟨#[]⟩), [], (.new [])⟩,
   ⟨(some 8), none, .mv (.t 7), [], (.new [])⟩,
   ⟨(some 9), (some (8, false)), .fieldA 0 (.t 2), [], (.new [])⟩,
   ⟨(some 10), (some (8, false)), .load none (.t 9), [], (.new [])⟩,
   ⟨(some 11), (some (8, false)), .fieldA 0 (.t 3), [], (.new [])⟩,
   ⟨(some 12), (some (8, false)), .load none (.t 11), [], (.new [])⟩,
   ⟨(some 13), (some (8, false)), .bin .eql (.t 10) (.t 12), [], (.new [])⟩,
   ⟨(some 14), none, .pick (.t 8) (kB true) (.t 13), [], (.new [])⟩,
   ⟨(some 15), none, .mv (.t 14), [], (.new [])⟩,
   ⟨(some 16), (some (15, true)), .fieldA 2 (.t 2), [], (.new [])⟩,
   ⟨(some 17), (some (15, true)), .load none (.t 16), [], (.new [])⟩,
   ⟨(some 18), (some (15, true)), .mv (.t 17), [], (.new [])⟩,
   ⟨(some 19), (some (18, false)), .fieldA 1 (.t 2), [], (.new [])⟩,
   ⟨(some 20), (some (18, false)), .load none (.t 19), [], (.new [])⟩,
   ⟨(some 21), (some (18, false)), .fieldA 1 (.t 3), [], (.new [])⟩,
   ⟨(some 22), (some (18, false)), .load none (.t 21), [], (.new [])⟩,
   ⟨(some 23), (some (18, false)), .bin .eql (.t 20) (.t 22), [], (.new [])⟩,
   ⟨(some 24), (some (15, true)), .pick (.t 18) (kB true) (.t 23), [], (.new [])⟩,
   ⟨(some 25), none, .pick (.t 15) (.t 24) (kB false), [], (.new [])⟩,
   ⟨(some 26), none, .mv (.t 25), [], (.new [])⟩,
   ⟨(some 27), (some (26, true)), .fieldA 3 (.t 2), [], (.new [])⟩,
   ⟨(some 28), (some (26, true)), .load none (.t 27), [], (.new [])⟩,
   ⟨(some 29), (some (26, true)), .bin .eql (.t 28) (kI 0), [], (.new [])⟩,
   ⟨(some 30), (some (26, true)), .mv (.t 29), [], (.new [])⟩,
   ⟨(some 31), (some (30, false)), .fieldA 3 (.t 2), [], (.new [])⟩,
   ⟨(some 32), (some (30, false)), .load none (.t 31), [], (.new [])⟩,
   ⟨(some 33), (some (30, false)), .fieldA 2 (.t 3), [], (.new [])⟩,
   ⟨(some 34), (some (30, false)), .load none (.t 33), [], (.new [])⟩,
   ⟨(some 35), (some (30, false)), .bin .eql (.t 32) (.t 34), [], (.new [])⟩,
   ⟨(some 36), (some (26, true)), .pick (.t 30) (kB true) (.t 35), [], (.new [])⟩,
   ⟨(some 37), none, .pick (.t 26) (.t 36) (kB false), [], (.new [])⟩,
   ⟨(some 4), none, .mv (.t 37), [], (.new [])⟩]))
 .ret))⟩
theorem a81_ok : afn Try.prog 81 = some a81.er := by kernel_rfl
theorem F81_ok {x0 : Toleration} {x1 : Taint} {r : Bool} (h : F81 x0 x1 = some r) : CallD Try.prog 81 [.agg [.d (.v (.string x0.Key)), .d (.v (.string x0.Value)), .d (.v (.bool x0.Exists)), .d (.v (.int .i64 x0.Effect)), .d (.v (.int .i64 x0.Seconds))], .agg [.d (.v (.string x1.Key)), .d (.v (.string x1.Value)), .d (.v (.int .i64 x1.Effect)), .d (.v (.int .i64 x1.Since))]] [] (tupV [.c (.d (.v (.bool r)))]) [] := by
  refine callS a81_ok (by simp [a81]) ?_
  rw [F81] at h
  simp only [a81, VW.down, Nat.reduceEqDiff, reduceCtorEq, Nat.reduceAdd, Nat.reduceLeDiff, Nat.reduceLT, Nat.reduceBEq, Nat.reduceSub, EE.down]
  obtain ⟨o1, ho, h⟩ := Option.bind_eq_some_iff.1 h
  refine cutS (fun s => s = ⟨[(4, .one (.c (.d (.v (.bool o1)))))], []⟩) ?_ ?_
  · have h := ho
    clear ho
    simp only [VW.down, Nat.reduceEqDiff, reduceCtorEq, Nat.reduceAdd, Nat.reduceLeDiff, Nat.reduceLT, Nat.reduceBEq, Nat.reduceSub, EE.down]
    refine guardS (fun g2 => ?_) (fun g2 => ?_)
    · have h := (if_pos g2).symm.trans h
      simp only [VW.down, Nat.reduceEqDiff, reduceCtorEq, Nat.reduceAdd, Nat.reduceLeDiff, Nat.reduceLT, Nat.reduceBEq, Nat.reduceSub, EE.down]
      refine guardSB (fun g3 => ?_) (fun g3 => ?_)
      · have h := (if_pos g3).symm.trans h
        simp only [VW.down, Nat.reduceEqDiff, reduceCtorEq, Nat.reduceAdd, Nat.reduceLeDiff, Nat.reduceLT, Nat.reduceBEq, Nat.reduceSub, EE.down]
        refine guardS (fun g4 => ?_) (fun g4 => ?_)
        · have h := (if_pos g4).symm.trans h
          simp only [VW.down, Nat.reduceEqDiff, reduceCtorEq, Nat.reduceAdd, Nat.reduceLeDiff, Nat.reduceLT, Nat.reduceBEq, Nat.reduceSub, EE.down]
          obtain rfl := Option.some.inj h
          exact eM [] rfl
        · have h := (if_neg g4).symm.trans h
          simp only [VW.down, Nat.reduceEqDiff, reduceCtorEq, Nat.reduceAdd, Nat.reduceLeDiff, Nat.reduceLT, Nat.reduceBEq, Nat.reduceSub, EE.down]
          obtain rfl := Option.some.inj h
          exact eM [] rfl
      · have h := (if_neg g3).symm.trans h
        simp only [VW.down, Nat.reduceEqDiff, reduceCtorEq, Nat.reduceAdd, Nat.reduceLeDiff, Nat.reduceLT, Nat.reduceBEq, Nat.reduceSub, EE.down]
        refine guardS (fun g5 => ?_) (fun g5 => ?_)
        · have h := (if_pos g5).symm.trans h
          simp only [VW.down, Nat.reduceEqDiff, reduceCtorEq, Nat.reduceAdd, Nat.reduceLeDiff, Nat.reduceLT, Nat.reduceBEq, Nat.reduceSub, EE.down]
          refine guardS (fun g6 => ?_) (fun g6 => ?_)
          · have h := (if_pos g6).symm.trans h
            simp only [VW.down, Nat.reduceEqDiff, reduceCtorEq, Nat.reduceAdd, Nat.reduceLeDiff, Nat.reduceLT, Nat.reduceBEq, Nat.reduceSub, EE.down]
            obtain rfl := Option.some.inj h
            exact eM [] rfl
          · have h := (if_neg g6).symm.trans h
            simp only [VW.down, Nat.reduceEqDiff, reduceCtorEq, Nat.reduceAdd, Nat.reduceLeDiff, Nat.reduceLT, Nat.reduceBEq, Nat.reduceSub, EE.down]
            obtain rfl := Option.some.inj h
            exact eM [] rfl
        · have h := (if_neg g5).symm.trans h
          simp only [VW.down, Nat.reduceEqDiff, reduceCtorEq, Nat.reduceAdd, Nat.reduceLeDiff, Nat.reduceLT, Nat.reduceBEq, Nat.reduceSub, EE.down]
          obtain rfl := Option.some.inj h
          exact eM [] rfl
    · have h := (if_neg g2).symm.trans h
      simp only [VW.down, Nat.reduceEqDiff, reduceCtorEq, Nat.reduceAdd, Nat.reduceLeDiff, Nat.reduceLT, Nat.reduceBEq, Nat.reduceSub, EE.down]
      refine guardS (fun g7 => ?_) (fun g7 => ?_)
      · have h := (if_pos g7).symm.trans h
        simp only [VW.down, Nat.reduceEqDiff, reduceCtorEq, Nat.reduceAdd, Nat.reduceLeDiff, Nat.reduceLT, Nat.reduceBEq, Nat.reduceSub, EE.down]
        refine guardSB (fun g8 => ?_) (fun g8 => ?_)
        · have h := (if_pos g8).symm.trans h
          simp only [VW.down, Nat.reduceEqDiff, reduceCtorEq, Nat.reduceAdd, Nat.reduceLeDiff, Nat.reduceLT, Nat.reduceBEq, Nat.reduceSub, EE.down]
          refine guardS (fun g9 => ?_) (fun g9 => ?_)
          · have h := (if_pos g9).symm.trans h
            simp only [VW.down, Nat.reduceEqDiff, reduceCtorEq, Nat.reduceAdd, Nat.reduceLeDiff, Nat.reduceLT, Nat.reduceBEq, Nat.reduceSub, EE.down]
            obtain rfl := Option.some.inj h
            exact eM [] rfl
          · have h := (if_neg g9).symm.trans h
            simp only [VW.down, Nat.reduceEqDiff, reduceCtorEq, Nat.reduceAdd, Nat.reduceLeDiff, Nat.reduceLT, Nat.reduceBEq, Nat.reduceSub, EE.down]
            obtain rfl := Option.some.inj h
            exact eM [] rfl
        · have h := (if_neg g8).symm.trans h
          simp only [VW.down, Nat.reduceEqDiff, reduceCtorEq, Nat.reduceAdd, Nat.reduceLeDiff, Nat.reduceLT, Nat.reduceBEq, Nat.reduceSub, EE.down]
          refine guardS (fun g10 => ?_) (fun g10 => ?_)
          · have h := (if_pos g10).symm.trans h
            simp only [VW.down, Nat.reduceEqDiff, reduceCtorEq, Nat.reduceAdd, Nat.reduceLeDiff, Nat.reduceLT, Nat.reduceBEq, Nat.reduceSub, EE.down]
            refine guardS (fun g11 => ?_) (fun g11 => ?_)
            · have h := (if_pos g11).symm.trans h
              simp only [VW.down, Nat.reduceEqDiff, reduceCtorEq, Nat.reduceAdd, Nat.reduceLeDiff, Nat.reduceLT, Nat.reduceBEq, Nat.reduceSub, EE.down]
              obtain rfl := Option.some.inj h
              exact eM [] rfl
            · have h := (if_neg g11).symm.trans h
              simp only [VW.down, Nat.reduceEqDiff, reduceCtorEq, Nat.reduceAdd, Nat.reduceLeDiff, Nat.reduceLT, Nat.reduceBEq, Nat.reduceSub, EE.down]
              obtain rfl := Option.some.inj h
              exact eM [] rfl
          · have h := (if_neg g10).symm.trans h
            simp only [VW.down, Nat.reduceEqDiff, reduceCtorEq, Nat.reduceAdd, Nat.reduceLeDiff, Nat.reduceLT, Nat.reduceBEq, Nat.reduceSub, EE.down]
            obtain rfl := Option.some.inj h
            exact eM [] rfl
      · have h := (if_neg g7).symm.trans h
        simp only [VW.down, Nat.reduceEqDiff, reduceCtorEq, Nat.reduceAdd, Nat.reduceLeDiff, Nat.reduceLT, Nat.reduceBEq, Nat.reduceSub, EE.down]
        obtain rfl := Option.some.inj h
        exact eM [] rfl
  · rintro _ rfl
    clear ho
    simp only [VW.down, Nat.reduceEqDiff, reduceCtorEq, Nat.reduceAdd, Nat.reduceLeDiff, Nat.reduceLT, Nat.reduceBEq, Nat.reduceSub, EE.down]
    obtain rfl := Option.some.inj h
    exact eF []

/- orchestrator/taint.leaves -/
def F68_l1 (x0 : Taint) : List Toleration → Nat → Int → Option ((Int × Bool) ⊕ (Int))
  | [], o1_1, o1_0 => some (Sum.inr o1_0)
  | xo1 :: xs, o1_1, o1_0 => (((F81 xo1 x0).bind fun t4 => (if (nb t4) = true then some (Sum.inr o1_0) else (if xo1.Seconds < 0 then ((some ((0, false))).map Sum.inl).map Sum.inl else (((if o1_0 < 0 then some true else some (decide (xo1.Seconds < o1_0)))).bind fun o7 => (if o7 = true then some (Sum.inr xo1.Seconds) else some (Sum.inr o1_0)))))).bind fun o3 => match o3 with | Sum.inl f => some f | Sum.inr po3 => F68_l1 x0 xs (o1_1 + 1) po3)
def F68 (x0 : Taint) (x1 : (List Toleration)) : Option (Int × Bool) := (((ck (0 ≤ x1.length ∧ x1.length ≤ 4294967290)).bind fun u10 => F68_l1 x0 x1 0 ((-1))).bind fun o1 => match o1 with | Sum.inl f => some f | Sum.inr po1 => some (((if 1000000000000 < (IntKind.i64.wrap (((if 1000000000000 < (if x0.Since < 0 then 0 else x0.Since) then 1000000000000 else (if x0.Since < 0 then 0 else x0.Since))) + ((if 1000000000000 < (if po1 < 0 then 0 else po1) then 1000000000000 else (if po1 < 0 then 0 else po1))))) then 1000000000000 else (IntKind.i64.wrap (((if 1000000000000 < (if x0.Since < 0 then 0 else x0.Since) then 1000000000000 else (if x0.Since < 0 then 0 else x0.Since))) + ((if 1000000000000 < (if po1 < 0 then 0 else po1) then 1000000000000 else (if po1 < 0 then 0 else po1)))))), true)))
def a68 : AFn := ⟨47, [(.tmp 4), (.tmp 5)],
 (.seq (.reg [⟨(some 2), none, .box (.t 0), [], (.new [])⟩,
   ⟨(some 4), none, .mv (kI 0), [], (.new [])⟩,
   ⟨(some 5), none, .mv (kB false), [], (.new [])⟩])
 (.seq (.reg [⟨(some 6), none, .mv (kI (-1)), [], (.new [])⟩])
 (.seq (.seq (.reg [⟨(some 10), none, .mv (.t 1), [], (.new [])⟩,
   ⟨(some 11), none, .len (.t 10), [], (.new [])⟩,
   ⟨(some 12), none, .mv (kI 0), [], (.new [])⟩])
 (.sem (.block 0 (.loop (.seq (.reg [⟨(some 13), none, .bin .lss (.t 12) (.t 11), [], (.new [])⟩])
 (.seq (.cond (.t 13)
 .skip
 (.exit 0))
 (.seq (.sem (.block 1 (.seq (.reg [⟨(some 14), none, .indexA 5 (.t 10) (.t 12), [], (.new [])⟩,
   ⟨(some 15), none, .load (some 5) (.t 14), [], (.new [])⟩,
   ⟨(some 8), none, .zbox [.d (.v (.string ⟨#[]⟩)), .d (.v (.string ⟨#[]⟩)), .d (.v (.bool false)), .d (.v (.int .i64 0)), .d (.v (.int .i64 0))], [], (.new [])⟩,
   ⟨none, none, .store 5 (.t 8) (.t 15), [], (.new [])⟩])
 (.block 2 (.seq (.reg [⟨(some 17), none, .load (some 5) (.t 8), [], (.new [])⟩,
   ⟨(some 18), none, .load (some 4) (.t 2), [], (.new [])⟩,
   ⟨(some 19), none, .call 81 [(.t 17), (.t 18)], [], (.new [])⟩,
   ⟨(some 20), none, .not (.t 19), [], (.new [])⟩,
   ⟨(some 16), none, .mv (.t 20), [], (.new [])⟩])
 (.cond (.t 16)
 .skip
 (.seq (.reg [⟨(some 22), none, .fieldA 4 (.t 8), [], (.new [])⟩,
   ⟨(some 23), none, .load none (.t 22), [], (.new [])⟩,
   ⟨(some 24), none, .bin .lss (.t 23) (kI 0), [], (.new [])⟩,
   ⟨(some 21), none, .mv (.t 24), [], (.new [])⟩])
 (.cond (.t 21)
 (.seq (.reg [⟨(some 4), none, .mv (kI 0), [], (.new [])⟩,
   ⟨(some 5), none, .mv (kB false), [], (.new [])⟩])
 .ret)
 (.seq (.sem (.reg [⟨(some 26), none, .mv (.t 6), [], (.new [])⟩,
   ⟨(some 27), none, .bin .lss (.t 26) (kI 0), [], (.new [])⟩,
   ⟨(some 28), none, .mv (.t 27), [], (.new [])⟩,
   ⟨(some 29), (some (28, false)), .fieldA 4 (.t 8), [], (.new [])⟩,
   ⟨(some 30), (some (28, false)), .load none (.t 29), [], (.new [])⟩,
   ⟨(some 31), (some (28, false)), .mv (.t 6), [], (.new [])⟩,
   ⟨(some 32), (some (28, false)), .bin .lss (.t 30) (.t 31), [], (.new [])⟩,
   ⟨(some 33), none, .pick (.t 28) (kB true) (.t 32), [], (.new [])⟩,
   ⟨(some 25), none, .mv (.t 33), [], (.new [])⟩]))
 (.cond (.t 25)
 (.reg [⟨(some 34), none, .fieldA 4 (.t 8), [], (.new [])⟩,
   ⟨(some 35), none, .load none (.t 34), [], (.new [])⟩,
   ⟨(some 6), none, .mv (.t 35), [], (.new [])⟩])
 .skip))))))))))
 (.reg [⟨(some 36), none, .bin .add (.t 12) (kI 1), [], (.new [])⟩,
   ⟨(some 12), none, .mv (.t 36), [], (.new [])⟩]))))))))
 (.seq (.reg [⟨(some 37), none, .fieldA 3 (.t 2), [], (.new [])⟩,
   ⟨(some 38), none, .load none (.t 37), [], (.new [])⟩,
   ⟨(some 39), none, .max (.t 38) (kI 0), [], (.new [])⟩,
   ⟨(some 40), none, .min (.t 39) (kI 1000000000000), [], (.new [])⟩,
   ⟨(some 9), none, .mv (.t 40), [], (.new [])⟩])
 (.seq (.reg [⟨(some 41), none, .mv (.t 9), [], (.new [])⟩,
   ⟨(some 42), none, .mv (.t 6), [], (.new [])⟩,
   ⟨(some 43), none, .max (.t 42) (kI 0), [], (.new [])⟩,
   ⟨(some 44), none, .min (.t 43) (kI 1000000000000), [], (.new [])⟩,
   ⟨(some 45), none, .bin .add (.t 41) (.t 44), [], (.new [])⟩,
   ⟨(some 46), none, .min (.t 45) (kI 1000000000000), [], (.new [])⟩,
   ⟨(some 4), none, .mv (.t 46), [], (.new [])⟩,
   ⟨(some 5), none, .mv (kB true), [], (.new [])⟩])
 .ret)))))⟩
theorem a68_ok : afn Try.prog 68 = some a68.er := by kernel_rfl
theorem F68_ok {x0 : Taint} {x1 : (List Toleration)} {r : Int × Bool} (h : F68 x0 x1 = some r) : CallD Try.prog 68 [.agg [.d (.v (.string x0.Key)), .d (.v (.string x0.Value)), .d (.v (.int .i64 x0.Effect)), .d (.v (.int .i64 x0.Since))], .c (.d (.sl (x1.map eToleration)))] [] (tupV [.c (.d (.v (.int .i64 r.1))), .c (.d (.v (.bool r.2)))]) [] := by
  refine callS a68_ok (by simp [a68]) ?_
  rw [F68] at h
  simp only [a68, VW.down, Nat.reduceEqDiff, reduceCtorEq, Nat.reduceAdd, Nat.reduceLeDiff, Nat.reduceLT, Nat.reduceBEq, Nat.reduceSub, EE.down]
  obtain ⟨o1, ho, h⟩ := Option.bind_eq_some_iff.1 h
  refine cutS (fun s => ∃ po1, o1 = Sum.inr po1 ∧ s = ⟨[(2, .one (.c (.pt 0 0))), (6, .one (.c (.d (.v (.int .i64 po1)))))], [some (.box [.d (.v (.string x0.Key)), .d (.v (.string x0.Value)), .d (.v (.int .i64 x0.Effect)), .d (.v (.int .i64 x0.Since))])]⟩) ?_ ?_
  · have h0o1 := h
    have h := ho
    clear ho
    obtain ⟨_, hk, h⟩ := Option.bind_eq_some_iff.1 h
    have hk := ck_some hk
    simp only [VW.down, Nat.reduceEqDiff, reduceCtorEq, Nat.reduceAdd, Nat.reduceLeDiff, Nat.reduceLT, Nat.reduceBEq, Nat.reduceSub, EE.down]
    refine bL (fun j s => ∃ (o1_1 : Nat) (o1_0 : Int), (o1_1 ≤ x1.length ∧ j = x1.length - o1_1) ∧ s = ⟨[(2, .one (.c (.pt 0 0))), (6, .one (.c (.d (.v (.int .i64 o1_0))))), (10, .one (.c (.d (.sl (x1.map eToleration))))), (11, .one (.c (.d (.v (.int .i64 ((x1.length : Int))))))), (12, .one (.c (.d (.v (.int .i64 ((o1_1 : Int)))))))], [some (.box [.d (.v (.string x0.Key)), .d (.v (.string x0.Value)), .d (.v (.int .i64 x0.Effect)), .d (.v (.int .i64 x0.Since))])]⟩ ∧ F68_l1 x0 (x1.drop o1_1) o1_1 o1_0 = some o1) (x1.length - 0) [some 0] ⟨0, (-1), ⟨hk.1, rfl⟩, rfl, h⟩ ?_
    rintro _ _ ⟨o1_1, o1_0, ⟨hi, rfl⟩, rfl, h⟩
    simp only [VW.down, Nat.reduceEqDiff, reduceCtorEq, Nat.reduceAdd, Nat.reduceLeDiff, Nat.reduceLT, Nat.reduceBEq, Nat.reduceSub, EE.down]
    refine condS (fun c2 => ?_) (fun c2 => ?_)
    · obtain ⟨xo1, hxo1, hd⟩ := countY (show (o1_1 : Int) < (x1.length : Int) from c2)
      rw [hd, F68_l1] at h
      simp only [VW.down, Nat.reduceEqDiff, reduceCtorEq, Nat.reduceAdd, Nat.reduceLeDiff, Nat.reduceLT, Nat.reduceBEq, Nat.reduceSub, EE.down]
      obtain ⟨o3, ho, h⟩ := Option.bind_eq_some_iff.1 h
      refine cutS (fun s => ∃ po3, o3 = Sum.inr po3 ∧ s = ⟨[(2, .one (.c (.pt 0 0))), (6, .one (.c (.d (.v (.int .i64 po3))))), (10, .one (.c (.d (.sl (x1.map eToleration))))), (11, .one (.c (.d (.v (.int .i64 ((x1.length : Int))))))), (12, .one (.c (.d (.v (.int .i64 ((o1_1 : Int)))))))], [some (.box [.d (.v (.string x0.Key)), .d (.v (.string x0.Value)), .d (.v (.int .i64 x0.Effect)), .d (.v (.int .i64 x0.Since))])]⟩) ?_ ?_
      · have h0o3 := h
        have h := ho
        clear ho
        simp only [VW.down, Nat.reduceEqDiff, reduceCtorEq, Nat.reduceAdd, Nat.reduceLeDiff, Nat.reduceLT, Nat.reduceBEq, Nat.reduceSub, EE.down]
        refine t_idxF (enc := eToleration) (xs := x1) rfl rfl hxo1 rfl ?_
        simp only [VW.down, Nat.reduceEqDiff, reduceCtorEq, Nat.reduceAdd, Nat.reduceLeDiff, Nat.reduceLT, Nat.reduceBEq, Nat.reduceSub, EE.down]
        obtain ⟨t4, ht4, h⟩ := Option.bind_eq_some_iff.1 h
        refine callX_n [] (F81_ok ht4) ?_ ?_ ?_ ?_ ?_ ?_
        · first | rfl | simp [nrmA, nrmC, nrm, A1.ren, C.ren, rn, List.length_set]
        · simp [liveAll, A1.live, C.live]
        · rfl
        · decide
        · exact trivial
        simp only [VW.down, Nat.reduceEqDiff, reduceCtorEq, Nat.reduceAdd, Nat.reduceLeDiff, Nat.reduceLT, Nat.reduceBEq, Nat.reduceSub, EE.down]
        refine condB (fun c5 => ?_) (fun c5 => ?_)
        · have h := (if_pos c5).symm.trans h
          simp only [VW.down, Nat.reduceEqDiff, reduceCtorEq, Nat.reduceAdd, Nat.reduceLeDiff, Nat.reduceLT, Nat.reduceBEq, Nat.reduceSub, EE.down]
          obtain rfl := Option.some.inj h
          exact eM [some 0] ⟨_, rfl, rfl⟩
        · have h := (if_neg c5).symm.trans h
          simp only [VW.down, Nat.reduceEqDiff, reduceCtorEq, Nat.reduceAdd, Nat.reduceLeDiff, Nat.reduceLT, Nat.reduceBEq, Nat.reduceSub, EE.down]
          refine condS (fun c6 => ?_) (fun c6 => ?_)
          · have h := (if_pos c6).symm.trans h
            simp only [VW.down, Nat.reduceEqDiff, reduceCtorEq, Nat.reduceAdd, Nat.reduceLeDiff, Nat.reduceLT, Nat.reduceBEq, Nat.reduceSub, EE.down]
            obtain ⟨fh0o3, hfh0o3, rfl⟩ := Option.map_eq_some_iff.1 h
            have h := hfh0o3.trans h0o3
            obtain ⟨fh0o1, hfh0o1, rfl⟩ := Option.map_eq_some_iff.1 h
            have h := hfh0o1.trans h0o1
            obtain rfl := Option.some.inj h
            exact eF []
          · have h := (if_neg c6).symm.trans h
            simp only [VW.down, Nat.reduceEqDiff, reduceCtorEq, Nat.reduceAdd, Nat.reduceLeDiff, Nat.reduceLT, Nat.reduceBEq, Nat.reduceSub, EE.down]
            obtain ⟨o7, ho, h⟩ := Option.bind_eq_some_iff.1 h
            refine cutS (fun s => s = ⟨[(2, .one (.c (.pt 0 0))), (6, .one (.c (.d (.v (.int .i64 o1_0))))), (8, .one (.c (.pt 1 0))), (10, .one (.c (.d (.sl (x1.map eToleration))))), (11, .one (.c (.d (.v (.int .i64 ((x1.length : Int))))))), (12, .one (.c (.d (.v (.int .i64 ((o1_1 : Int))))))), (25, .one (.c (.d (.v (.bool o7)))))], [some (.box [.d (.v (.string x0.Key)), .d (.v (.string x0.Value)), .d (.v (.int .i64 x0.Effect)), .d (.v (.int .i64 x0.Since))]), some (.box [.d (.v (.string xo1.Key)), .d (.v (.string xo1.Value)), .d (.v (.bool xo1.Exists)), .d (.v (.int .i64 xo1.Effect)), .d (.v (.int .i64 xo1.Seconds))])]⟩) ?_ ?_
            · have h := ho
              clear ho
              simp only [VW.down, Nat.reduceEqDiff, reduceCtorEq, Nat.reduceAdd, Nat.reduceLeDiff, Nat.reduceLT, Nat.reduceBEq, Nat.reduceSub, EE.down]
              refine guardS (fun g8 => ?_) (fun g8 => ?_)
              · have h := (if_pos g8).symm.trans h
                simp only [VW.down, Nat.reduceEqDiff, reduceCtorEq, Nat.reduceAdd, Nat.reduceLeDiff, Nat.reduceLT, Nat.reduceBEq, Nat.reduceSub, EE.down]
                obtain rfl := Option.some.inj h
                exact eM [some 0, some 1] rfl
              · have h := (if_neg g8).symm.trans h
                simp only [VW.down, Nat.reduceEqDiff, reduceCtorEq, Nat.reduceAdd, Nat.reduceLeDiff, Nat.reduceLT, Nat.reduceBEq, Nat.reduceSub, EE.down]
                obtain rfl := Option.some.inj h
                exact eM [some 0, some 1] rfl
            · rintro _ rfl
              clear ho
              simp only [VW.down, Nat.reduceEqDiff, reduceCtorEq, Nat.reduceAdd, Nat.reduceLeDiff, Nat.reduceLT, Nat.reduceBEq, Nat.reduceSub, EE.down]
              refine condB (fun c9 => ?_) (fun c9 => ?_)
              · have h := (if_pos c9).symm.trans h
                simp only [VW.down, Nat.reduceEqDiff, reduceCtorEq, Nat.reduceAdd, Nat.reduceLeDiff, Nat.reduceLT, Nat.reduceBEq, Nat.reduceSub, EE.down]
                obtain rfl := Option.some.inj h
                exact eM [some 0] ⟨_, rfl, rfl⟩
              · have h := (if_neg c9).symm.trans h
                simp only [VW.down, Nat.reduceEqDiff, reduceCtorEq, Nat.reduceAdd, Nat.reduceLeDiff, Nat.reduceLT, Nat.reduceBEq, Nat.reduceSub, EE.down]
                obtain rfl := Option.some.inj h
                exact eM [some 0] ⟨_, rfl, rfl⟩
      · rintro _ ⟨po3, rfl, rfl⟩
        clear ho
        dsimp only at h
        simp only [VW.down, Nat.reduceEqDiff, reduceCtorEq, Nat.reduceAdd, Nat.reduceLeDiff, Nat.reduceLT, Nat.reduceBEq, Nat.reduceSub, EE.down]
        rw [wrapN (by omega)]
        exact eL' (x1.length - (o1_1 + 1)) [some 0] ⟨o1_1 + 1, po3, ⟨by omega, rfl⟩, rfl, h⟩ (by omega)
    · rw [countN (show ¬ ((o1_1 : Int) < (x1.length : Int)) from c2), F68_l1] at h
      simp only [VW.down, Nat.reduceEqDiff, reduceCtorEq, Nat.reduceAdd, Nat.reduceLeDiff, Nat.reduceLT, Nat.reduceBEq, Nat.reduceSub, EE.down]
      obtain rfl := Option.some.inj h
      exact eM [some 0] ⟨_, rfl, rfl⟩
  · rintro _ ⟨po1, rfl, rfl⟩
    clear ho
    dsimp only at h
    simp only [VW.down, Nat.reduceEqDiff, reduceCtorEq, Nat.reduceAdd, Nat.reduceLeDiff, Nat.reduceLT, Nat.reduceBEq, Nat.reduceSub, EE.down]
    obtain rfl := Option.some.inj h
    exact eF []

/- orchestrator/taint.EvictAt -/
def F61_l1 (x1 : (List Toleration)) : List Taint → Nat → Int → Bool → Option (Int × Bool)
  | [], o1_2, o1_0, o1_1 => some ((o1_0, o1_1))
  | xo1 :: xs, o1_2, o1_0, o1_1 => (((if ¬ (xo1.Effect = 3) then some ((o1_0, o1_1)) else (F68 xo1 x1).bind fun t5 => (((if t5.2 = true then (if (nb o1_1) = true then some true else some (decide (t5.1 < o1_0))) else some false)).bind fun o6 => (if o6 = true then some ((t5.1, true)) else some ((o1_0, o1_1)))))).bind fun o3 => F61_l1 x1 xs (o1_2 + 1) o3.1 o3.2)
def F61 (x0 : (List Taint)) (x1 : (List Toleration)) : Option (Int × Bool) := (((ck (0 ≤ x0.length ∧ x0.length ≤ 4294967290)).bind fun u10 => F61_l1 x1 x0 0 0 false).bind fun o1 => some ((o1.1, o1.2)))
def a61 : AFn := ⟨41, [(.tmp 4), (.tmp 5)],
 (.seq (.reg [⟨(some 4), none, .mv (kI 0), [], (.new [])⟩,
   ⟨(some 5), none, .mv (kB false), [], (.new [])⟩])
 (.seq (.reg [⟨(some 6), none, .mv (kI 0), [], (.new [])⟩,
   ⟨(some 7), none, .mv (kB false), [], (.new [])⟩])
 (.seq (.seq (.reg [⟨(some 12), none, .mv (.t 0), [], (.new [])⟩,
   ⟨(some 13), none, .len (.t 12), [], (.new [])⟩,
   ⟨(some 14), none, .mv (kI 0), [], (.new [])⟩])
 (.sem (.block 0 (.loop (.seq (.reg [⟨(some 15), none, .bin .lss (.t 14) (.t 13), [], (.new [])⟩])
 (.seq (.cond (.t 15)
 .skip
 (.exit 0))
 (.seq (.sem (.block 1 (.seq (.reg [⟨(some 16), none, .indexA 4 (.t 12) (.t 14), [], (.new [])⟩,
   ⟨(some 17), none, .load (some 4) (.t 16), [], (.new [])⟩,
   ⟨(some 9), none, .zbox [.d (.v (.string ⟨#[]⟩)), .d (.v (.string ⟨#[]⟩)), .d (.v (.int .i64 0)), .d (.v (.int .i64 0))], [], (.new [])⟩,
   ⟨none, none, .store 4 (.t 9) (.t 17), [], (.new [])⟩])
 (.seq (.seq (.reg [⟨(some 18), none, .fieldA 2 (.t 9), [], (.new [])⟩,
   ⟨(some 19), none, .load none (.t 18), [], (.new [])⟩,
   ⟨(some 20), none, .bin .neq (.t 19) (kI 3), [], (.new [])⟩])
 (.cond (.t 20)
 (.exit 1)
 .skip))
 (.seq (.reg [⟨(some 22), none, .load (some 4) (.t 9), [], (.new [])⟩,
   ⟨(some 23), none, .mv (.t 1), [], (.new [])⟩,
   ⟨(some 24), none, .call 68 [(.t 22), (.t 23)], [], (.new [])⟩,
   ⟨(some 21), none, .mv (.t 24), [], (.new [])⟩,
   ⟨(some 25), none, .ext (.t 21) 0, [], (.new [])⟩,
   ⟨(some 26), none, .ext (.t 21) 1, [], (.new [])⟩,
   ⟨(some 10), none, .mv (.t 25), [], (.new [])⟩,
   ⟨(some 11), none, .mv (.t 26), [], (.new [])⟩])
 (.seq (.sem (.reg [⟨(some 27), none, .mv (.t 11), [], (.new [])⟩,
   ⟨(some 28), none, .mv (.t 27), [], (.new [])⟩,
   ⟨(some 29), (some (28, true)), .mv (.t 7), [], (.new [])⟩,
   ⟨(some 30), (some (28, true)), .not (.t 29), [], (.new [])⟩,
   ⟨(some 31), (some (28, true)), .mv (.t 30), [], (.new [])⟩,
   ⟨(some 32), (some (31, false)), .mv (.t 10), [], (.new [])⟩,
   ⟨(some 33), (some (31, false)), .mv (.t 6), [], (.new [])⟩,
   ⟨(some 34), (some (31, false)), .bin .lss (.t 32) (.t 33), [], (.new [])⟩,
   ⟨(some 35), (some (28, true)), .pick (.t 31) (kB true) (.t 34), [], (.new [])⟩,
   ⟨(some 36), none, .pick (.t 28) (.t 35) (kB false), [], (.new [])⟩]))
 (.cond (.t 36)
 (.reg [⟨(some 37), none, .mv (.t 10), [], (.new [])⟩,
   ⟨(some 6), none, .mv (.t 37), [], (.new [])⟩,
   ⟨(some 7), none, .mv (kB true), [], (.new [])⟩])
 .skip)))))))
 (.reg [⟨(some 38), none, .bin .add (.t 14) (kI 1), [], (.new [])⟩,
   ⟨(some 14), none, .mv (.t 38), [], (.new [])⟩]))))))))
 (.seq (.reg [⟨(some 39), none, .mv (.t 6), [], (.new [])⟩,
   ⟨(some 40), none, .mv (.t 7), [], (.new [])⟩,
   ⟨(some 4), none, .mv (.t 39), [], (.new [])⟩,
   ⟨(some 5), none, .mv (.t 40), [], (.new [])⟩])
 .ret))))⟩
theorem a61_ok : afn Try.prog 61 = some a61.er := by kernel_rfl
theorem F61_ok {x0 : (List Taint)} {x1 : (List Toleration)} {r : Int × Bool} (h : F61 x0 x1 = some r) : CallD Try.prog 61 [.c (.d (.sl (x0.map eTaint))), .c (.d (.sl (x1.map eToleration)))] [] (tupV [.c (.d (.v (.int .i64 r.1))), .c (.d (.v (.bool r.2)))]) [] := by
  refine callS a61_ok (by simp [a61]) ?_
  rw [F61] at h
  simp only [a61, VW.down, Nat.reduceEqDiff, reduceCtorEq, Nat.reduceAdd, Nat.reduceLeDiff, Nat.reduceLT, Nat.reduceBEq, Nat.reduceSub, EE.down]
  obtain ⟨o1, ho, h⟩ := Option.bind_eq_some_iff.1 h
  refine cutS (fun s => s = ⟨[(6, .one (.c (.d (.v (.int .i64 o1.1))))), (7, .one (.c (.d (.v (.bool o1.2)))))], []⟩) ?_ ?_
  · have h := ho
    clear ho
    obtain ⟨_, hk, h⟩ := Option.bind_eq_some_iff.1 h
    have hk := ck_some hk
    simp only [VW.down, Nat.reduceEqDiff, reduceCtorEq, Nat.reduceAdd, Nat.reduceLeDiff, Nat.reduceLT, Nat.reduceBEq, Nat.reduceSub, EE.down]
    refine bL (fun j s => ∃ (o1_2 : Nat) (o1_0 : Int) (o1_1 : Bool), (o1_2 ≤ x0.length ∧ j = x0.length - o1_2) ∧ s = ⟨[(1, .one (.c (.d (.sl (x1.map eToleration))))), (6, .one (.c (.d (.v (.int .i64 o1_0))))), (7, .one (.c (.d (.v (.bool o1_1))))), (12, .one (.c (.d (.sl (x0.map eTaint))))), (13, .one (.c (.d (.v (.int .i64 ((x0.length : Int))))))), (14, .one (.c (.d (.v (.int .i64 ((o1_2 : Int)))))))], []⟩ ∧ F61_l1 x1 (x0.drop o1_2) o1_2 o1_0 o1_1 = some o1) (x0.length - 0) [] ⟨0, 0, false, ⟨hk.1, rfl⟩, rfl, h⟩ ?_
    rintro _ _ ⟨o1_2, o1_0, o1_1, ⟨hi, rfl⟩, rfl, h⟩
    simp only [VW.down, Nat.reduceEqDiff, reduceCtorEq, Nat.reduceAdd, Nat.reduceLeDiff, Nat.reduceLT, Nat.reduceBEq, Nat.reduceSub, EE.down]
    refine condS (fun c2 => ?_) (fun c2 => ?_)
    · obtain ⟨xo1, hxo1, hd⟩ := countY (show (o1_2 : Int) < (x0.length : Int) from c2)
      rw [hd, F61_l1] at h
      simp only [VW.down, Nat.reduceEqDiff, reduceCtorEq, Nat.reduceAdd, Nat.reduceLeDiff, Nat.reduceLT, Nat.reduceBEq, Nat.reduceSub, EE.down]
      obtain ⟨o3, ho, h⟩ := Option.bind_eq_some_iff.1 h
      refine cutS (fun s => s = ⟨[(1, .one (.c (.d (.sl (x1.map eToleration))))), (6, .one (.c (.d (.v (.int .i64 o3.1))))), (7, .one (.c (.d (.v (.bool o3.2))))), (12, .one (.c (.d (.sl (x0.map eTaint))))), (13, .one (.c (.d (.v (.int .i64 ((x0.length : Int))))))), (14, .one (.c (.d (.v (.int .i64 ((o1_2 : Int)))))))], []⟩) ?_ ?_
      · have h := ho
        clear ho
        simp only [VW.down, Nat.reduceEqDiff, reduceCtorEq, Nat.reduceAdd, Nat.reduceLeDiff, Nat.reduceLT, Nat.reduceBEq, Nat.reduceSub, EE.down]
        refine t_idxF (enc := eTaint) (xs := x0) rfl rfl hxo1 rfl ?_
        simp only [VW.down, Nat.reduceEqDiff, reduceCtorEq, Nat.reduceAdd, Nat.reduceLeDiff, Nat.reduceLT, Nat.reduceBEq, Nat.reduceSub, EE.down]
        refine condS (fun c4 => ?_) (fun c4 => ?_)
        · have h := (if_pos c4).symm.trans h
          simp only [VW.down, Nat.reduceEqDiff, reduceCtorEq, Nat.reduceAdd, Nat.reduceLeDiff, Nat.reduceLT, Nat.reduceBEq, Nat.reduceSub, EE.down]
          obtain rfl := Option.some.inj h
          exact eM [] rfl
        · have h := (if_neg c4).symm.trans h
          simp only [VW.down, Nat.reduceEqDiff, reduceCtorEq, Nat.reduceAdd, Nat.reduceLeDiff, Nat.reduceLT, Nat.reduceBEq, Nat.reduceSub, EE.down]
          obtain ⟨t5, ht5, h⟩ := Option.bind_eq_some_iff.1 h
          refine callX_n [] (F68_ok ht5) ?_ ?_ ?_ ?_ ?_ ?_
          · first | rfl | simp [nrmA, nrmC, nrm, A1.ren, C.ren, rn, List.length_set]
          · simp [liveAll, A1.live, C.live]
          · rfl
          · decide
          · exact trivial
          simp only [VW.down, Nat.reduceEqDiff, reduceCtorEq, Nat.reduceAdd, Nat.reduceLeDiff, Nat.reduceLT, Nat.reduceBEq, Nat.reduceSub, EE.down]
          obtain ⟨o6, ho, h⟩ := Option.bind_eq_some_iff.1 h
          refine cutS (fun s => s = ⟨[(1, .one (.c (.d (.sl (x1.map eToleration))))), (6, .one (.c (.d (.v (.int .i64 o1_0))))), (7, .one (.c (.d (.v (.bool o1_1))))), (10, .one (.c (.d (.v (.int .i64 t5.1))))), (12, .one (.c (.d (.sl (x0.map eTaint))))), (13, .one (.c (.d (.v (.int .i64 ((x0.length : Int))))))), (14, .one (.c (.d (.v (.int .i64 ((o1_2 : Int))))))), (36, .one (.c (.d (.v (.bool o6)))))], []⟩) ?_ ?_
          · have h := ho
            clear ho
            simp only [VW.down, Nat.reduceEqDiff, reduceCtorEq, Nat.reduceAdd, Nat.reduceLeDiff, Nat.reduceLT, Nat.reduceBEq, Nat.reduceSub, EE.down]
            refine guardSB (fun g7 => ?_) (fun g7 => ?_)
            · have h := (if_pos g7).symm.trans h
              simp only [VW.down, Nat.reduceEqDiff, reduceCtorEq, Nat.reduceAdd, Nat.reduceLeDiff, Nat.reduceLT, Nat.reduceBEq, Nat.reduceSub, EE.down]
              refine guardSB (fun g8 => ?_) (fun g8 => ?_)
              · have h := (if_pos g8).symm.trans h
                simp only [VW.down, Nat.reduceEqDiff, reduceCtorEq, Nat.reduceAdd, Nat.reduceLeDiff, Nat.reduceLT, Nat.reduceBEq, Nat.reduceSub, EE.down]
                obtain rfl := Option.some.inj h
                exact eM [] rfl
              · have h := (if_neg g8).symm.trans h
                simp only [VW.down, Nat.reduceEqDiff, reduceCtorEq, Nat.reduceAdd, Nat.reduceLeDiff, Nat.reduceLT, Nat.reduceBEq, Nat.reduceSub, EE.down]
                obtain rfl := Option.some.inj h
                exact eM [] rfl
            · have h := (if_neg g7).symm.trans h
              simp only [VW.down, Nat.reduceEqDiff, reduceCtorEq, Nat.reduceAdd, Nat.reduceLeDiff, Nat.reduceLT, Nat.reduceBEq, Nat.reduceSub, EE.down]
              obtain rfl := Option.some.inj h
              exact eM [] rfl
          · rintro _ rfl
            clear ho
            simp only [VW.down, Nat.reduceEqDiff, reduceCtorEq, Nat.reduceAdd, Nat.reduceLeDiff, Nat.reduceLT, Nat.reduceBEq, Nat.reduceSub, EE.down]
            refine condB (fun c9 => ?_) (fun c9 => ?_)
            · have h := (if_pos c9).symm.trans h
              simp only [VW.down, Nat.reduceEqDiff, reduceCtorEq, Nat.reduceAdd, Nat.reduceLeDiff, Nat.reduceLT, Nat.reduceBEq, Nat.reduceSub, EE.down]
              obtain rfl := Option.some.inj h
              exact eM [] rfl
            · have h := (if_neg c9).symm.trans h
              simp only [VW.down, Nat.reduceEqDiff, reduceCtorEq, Nat.reduceAdd, Nat.reduceLeDiff, Nat.reduceLT, Nat.reduceBEq, Nat.reduceSub, EE.down]
              obtain rfl := Option.some.inj h
              exact eM [] rfl
      · rintro _ rfl
        clear ho
        simp only [VW.down, Nat.reduceEqDiff, reduceCtorEq, Nat.reduceAdd, Nat.reduceLeDiff, Nat.reduceLT, Nat.reduceBEq, Nat.reduceSub, EE.down]
        rw [wrapN (by omega)]
        exact eL' (x0.length - (o1_2 + 1)) [] ⟨o1_2 + 1, o3.1, o3.2, ⟨by omega, rfl⟩, rfl, h⟩ (by omega)
    · rw [countN (show ¬ ((o1_2 : Int) < (x0.length : Int)) from c2), F61_l1] at h
      simp only [VW.down, Nat.reduceEqDiff, reduceCtorEq, Nat.reduceAdd, Nat.reduceLeDiff, Nat.reduceLT, Nat.reduceBEq, Nat.reduceSub, EE.down]
      obtain rfl := Option.some.inj h
      exact eM [] rfl
  · rintro _ rfl
    clear ho
    simp only [VW.down, Nat.reduceEqDiff, reduceCtorEq, Nat.reduceAdd, Nat.reduceLeDiff, Nat.reduceLT, Nat.reduceBEq, Nat.reduceSub, EE.down]
    obtain rfl := Option.some.inj h
    exact eF []

/- orchestrator/nodelife.leaves$1 -/
def F60 (x0 : Taint) : Option (Bool) := (F24).bind fun t1 => (F27 ((lit [(⟨(⟨#[110, 111, 100, 101, 45, 110, 111, 116, 45, 114, 101, 97, 100, 121]⟩ : ByteArray), (⟨#[]⟩ : ByteArray), 1, 0⟩ : Taint), (⟨(⟨#[110, 111, 100, 101, 45, 110, 111, 116, 45, 114, 101, 97, 100, 121]⟩ : ByteArray), (⟨#[]⟩ : ByteArray), 3, 0⟩ : Taint), (⟨(⟨#[108, 111, 119, 45, 109, 101, 109, 111, 114, 121]⟩ : ByteArray), (⟨#[]⟩ : ByteArray), 1, 0⟩ : Taint), (⟨(⟨#[108, 111, 119, 45, 100, 105, 115, 107]⟩ : ByteArray), (⟨#[]⟩ : ByteArray), 1, 0⟩ : Taint)])) x0).bind fun t2 => some t2
def a60 : AFn := ⟨6, [(.tmp 2)],
 (.seq (.reg [⟨(some 1), none, .box (.t 0), [], (.new [])⟩,
   ⟨(some 2), none, .mv (kB false), [], (.new [])⟩])
 (.seq (.regd [⟨(some 3), none, .call 24 [], [], (.new [])⟩,
   ⟨(some 4), none, .load (some 4) (.t 1), [], (.new [])⟩,
   ⟨(some 5), none, .call 27 [(.t 3), (.t 4)], [0, 1], (.lone [])⟩,
   ⟨(some 2), none, .mv (.t 5), [0, 1, 2], (.new [])⟩])
 .ret))⟩
theorem a60_ok : afn Try.prog 60 = some a60.er := by kernel_rfl
theorem F60_ok {x0 : Taint} {r : Bool} (h : F60 x0 = some r) : CallD Try.prog 60 [.agg [.d (.v (.string x0.Key)), .d (.v (.string x0.Value)), .d (.v (.int .i64 x0.Effect)), .d (.v (.int .i64 x0.Since))]] [] (tupV [.c (.d (.v (.bool r)))]) [] := by
  refine callS a60_ok (by simp [a60]) ?_
  rw [F60] at h
  simp only [a60, VW.down, Nat.reduceEqDiff, reduceCtorEq, Nat.reduceAdd, Nat.reduceLeDiff, Nat.reduceLT, Nat.reduceBEq, Nat.reduceSub, EE.down]
  obtain ⟨t1, ht1, h⟩ := Option.bind_eq_some_iff.1 h
  refine callX_n [] (F24_ok ht1) ?_ ?_ ?_ ?_ ?_ ?_
  · first | rfl | simp [nrmA, nrmC, nrm, A1.ren, C.ren, rn, List.length_set]
  · simp [liveAll, A1.live, C.live]
  · rfl
  · decide
  · exact trivial
  simp only [VW.down, Nat.reduceEqDiff, reduceCtorEq, Nat.reduceAdd, Nat.reduceLeDiff, Nat.reduceLT, Nat.reduceBEq, Nat.reduceSub, EE.down]
  refine kD_new (by simp [wrs, allW, hset]) ?_
  simp only [VW.down, Nat.reduceEqDiff, reduceCtorEq, Nat.reduceAdd, Nat.reduceLeDiff, Nat.reduceLT, Nat.reduceBEq, Nat.reduceSub, EE.down]
  obtain ⟨t2, ht2, h⟩ := Option.bind_eq_some_iff.1 h
  refine callX_bor (F27_ok ht2) (by simp only [borAs, bors, hp, List.getElem?_cons_zero, List.getElem?_cons_succ, Option.join_some, List.drop_zero, bor_full', true_and, Nat.zero_add, List.length_map, Nat.le_refl, nrm, List.length_cons, List.length_nil, Nat.reduceAdd, Nat.reduceLeDiff, List.take_succ_cons, List.take_zero, List.take_nil, List.map_cons, List.map_nil, List.length_set, EE.down]) rfl ?_
  simp only [VW.down, Nat.reduceEqDiff, reduceCtorEq, Nat.reduceAdd, Nat.reduceLeDiff, Nat.reduceLT, Nat.reduceBEq, Nat.reduceSub, EE.down]
  obtain rfl := Option.some.inj h
  exact eF []
end Go.Proofs.Ytihhlgbcbmoblaa
