/-
  No cell of these rows narrows 'for every input' (looked for: loops, veiled, ifaces, maps, wideKeys, modest, calm, conditions, laid).
  DERIVED. THE GIVEN ROWS OF THIS SEAT. 4 by the template 'for every input the law returns true; each argument reads behind the call as it read before'; 0 by the template 'total and deterministic' (their statements: YtojbebejhgbfeaaGreatTotals.lean).
  GIVEN WITH THE SEED: the statements are not yours to turn. If you find one false, say at which input.
  Laid BY PROGRAM, IN A SANDBOX (cutbox-rows.mjs): the forced cells as the released guide's own fill.sh prints them over the translation 2e5b5e8366d17e7c… (all of the seat's roots in one cut). By AI agents, Wed Nov 11 2026. No macro, syntax, notation, axiom, sorry.
-/
import Derived.Test.YtojbebejhgbfeaaGreatChecked
import GoSem.Claim
import GoSem.ClaimJoined
import GoSem.ClaimMapViews
import Derived.JoinedTies
import Derived.KernelRfl
namespace Go.Proofs.YtojbebejhgbfeaaGreat
/- THE CELL 'sum', in the pinned program and in every row, IS THE sha256 OF THE DUMP (.gsa) THAT YtojbebejhgbfeaaGreatProg.lean LOADS. Nothing in Lean hashes anything: it is a label: what it is worth is what the hold of that sum in a sandbox is worth. -/
noncomputable def Tryz.pinned : Pinned := { name := "ytojbebejhgbfeaagreat", sum := "2e5b5e8366d17e7cf60953ed50237523892b7d907a041f98fc825641fd03567c", checked := Tryz.checked }
namespace Rows
def none {H : Type} : Left H := { results := [], args := [] }

/-- 'orchestratorlaw53.AgentCapacity': WHATEVER THE INPUT: true; the input reads as it did. -/
def agentCapacitySpec : ChangeSpec := { name := "agentCapacity", fn := fun _ => fun
  | [d1, d2, d3] => { results := [.lit (.bool true)], args := [d1, d2, d3] }
  | _ => none }
def agentCapacityRow : OpenClaim := { program := "ytojbebejhgbfeaagreat", sum := "2e5b5e8366d17e7cf60953ed50237523892b7d907a041f98fc825641fd03567c", func := "orchestrator/orchestratorlaw53.AgentCapacity", spec := "agentCapacity", inPlace := ["internal/bytealg.abigen_runtime_cmpstring", "slices.overlaps[orchestrator/api.LocalPod]", "slices.overlaps[orchestrator/api.Image]"], unfollowed := true, recurses := true, apart := false }
def AgentCapacitySaid : Prop := agentCapacityRow.holds Tryz.pinned (OpenSpec.ofChange agentCapacitySpec)

/-- ITS FALSE NEIGHBOUR: 'it returns false'. Refute it at one input. -/
def agentCapacityWrong : ChangeSpec := { name := "agentCapacity", fn := fun _ => fun
  | [d1, d2, d3] => { results := [.lit (.bool false)], args := [d1, d2, d3] }
  | _ => none }
def AgentCapacityWrongFalsely : Prop := agentCapacityRow.holds Tryz.pinned (OpenSpec.ofChange agentCapacityWrong)

/-- 'orchestratorlaw53.AgentFinished': WHATEVER THE INPUT: true; the input reads as it did. -/
def agentFinishedSpec : ChangeSpec := { name := "agentFinished", fn := fun _ => fun
  | [d1, d2, d3] => { results := [.lit (.bool true)], args := [d1, d2, d3] }
  | _ => none }
def agentFinishedRow : OpenClaim := { program := "ytojbebejhgbfeaagreat", sum := "2e5b5e8366d17e7cf60953ed50237523892b7d907a041f98fc825641fd03567c", func := "orchestrator/orchestratorlaw53.AgentFinished", spec := "agentFinished", inPlace := ["internal/bytealg.abigen_runtime_cmpstring", "slices.overlaps[orchestrator/api.LocalPod]", "slices.overlaps[orchestrator/api.Image]"], unfollowed := true, recurses := true, apart := false }
def AgentFinishedSaid : Prop := agentFinishedRow.holds Tryz.pinned (OpenSpec.ofChange agentFinishedSpec)

/-- ITS FALSE NEIGHBOUR: 'it returns false'. Refute it at one input. -/
def agentFinishedWrong : ChangeSpec := { name := "agentFinished", fn := fun _ => fun
  | [d1, d2, d3] => { results := [.lit (.bool false)], args := [d1, d2, d3] }
  | _ => none }
def AgentFinishedWrongFalsely : Prop := agentFinishedRow.holds Tryz.pinned (OpenSpec.ofChange agentFinishedWrong)

/-- 'orchestratorlaw53.AgentPlays': WHATEVER THE INPUT: true; the input reads as it did. -/
def agentPlaysSpec : ChangeSpec := { name := "agentPlays", fn := fun _ => fun
  | [d1, d2, d3] => { results := [.lit (.bool true)], args := [d1, d2, d3] }
  | _ => none }
def agentPlaysRow : OpenClaim := { program := "ytojbebejhgbfeaagreat", sum := "2e5b5e8366d17e7cf60953ed50237523892b7d907a041f98fc825641fd03567c", func := "orchestrator/orchestratorlaw53.AgentPlays", spec := "agentPlays", inPlace := ["internal/bytealg.abigen_runtime_cmpstring", "slices.overlaps[orchestrator/api.LocalPod]", "slices.overlaps[orchestrator/api.Image]"], unfollowed := true, recurses := true, apart := false }
def AgentPlaysSaid : Prop := agentPlaysRow.holds Tryz.pinned (OpenSpec.ofChange agentPlaysSpec)

/-- ITS FALSE NEIGHBOUR: 'it returns false'. Refute it at one input. -/
def agentPlaysWrong : ChangeSpec := { name := "agentPlays", fn := fun _ => fun
  | [d1, d2, d3] => { results := [.lit (.bool false)], args := [d1, d2, d3] }
  | _ => none }
def AgentPlaysWrongFalsely : Prop := agentPlaysRow.holds Tryz.pinned (OpenSpec.ofChange agentPlaysWrong)

/-- 'orchestratorlaw53.AgentReports': WHATEVER THE INPUT: true; the input reads as it did. -/
def agentReportsSpec : ChangeSpec := { name := "agentReports", fn := fun _ => fun
  | [d1, d2, d3] => { results := [.lit (.bool true)], args := [d1, d2, d3] }
  | _ => none }
def agentReportsRow : OpenClaim := { program := "ytojbebejhgbfeaagreat", sum := "2e5b5e8366d17e7cf60953ed50237523892b7d907a041f98fc825641fd03567c", func := "orchestrator/orchestratorlaw53.AgentReports", spec := "agentReports", inPlace := ["internal/bytealg.abigen_runtime_cmpstring", "slices.overlaps[orchestrator/api.LocalPod]", "slices.overlaps[orchestrator/api.Image]"], unfollowed := true, recurses := true, apart := false }
def AgentReportsSaid : Prop := agentReportsRow.holds Tryz.pinned (OpenSpec.ofChange agentReportsSpec)

/-- ITS FALSE NEIGHBOUR: 'it returns false'. Refute it at one input. -/
def agentReportsWrong : ChangeSpec := { name := "agentReports", fn := fun _ => fun
  | [d1, d2, d3] => { results := [.lit (.bool false)], args := [d1, d2, d3] }
  | _ => none }
def AgentReportsWrongFalsely : Prop := agentReportsRow.holds Tryz.pinned (OpenSpec.ofChange agentReportsWrong)

/- THE SECOND FORM. 'bulk': how many values and letters a reading holds, each counted each time it is reached (what is shared counts as often as it is met; a slice's spare places count too). A statement '..UptoSaid' is the law's where the arguments, and the package variables that the reading takes, are together of bulk at most 1048576: NARROWER than '..Said'. Prove '..Said' where nothing that the law and all that it calls make is longer than what came in: it says more and counts as full. Else prove '..UptoSaid'. A law counts once. -/
mutual
def uptoBulk {H : Type} : DataW H → Nat
  | .lit (.string bytes) => bytes.length + 1
  | .lit _ => 1
  | .nil => 1
  | .ptr d => uptoBulk d + 1
  | .slice elems spare => uptoBulkAll elems + uptoBulkAll spare + 1
  | .agg parts => uptoBulkAll parts + 1
  | .iface _ d => uptoBulk d + 1
  | .map entries => uptoBulkEntries entries + 1
  | .held _ => 1
def uptoBulkAll {H : Type} : List (DataW H) → Nat
  | [] => 0
  | d :: r => uptoBulk d + uptoBulkAll r
def uptoBulkEntries {H : Type} : List (Lit × DataW H) → Nat
  | [] => 0
  | x :: r => uptoBulkEntry x + uptoBulkEntries r
def uptoBulkEntry {H : Type} : Lit × DataW H → Nat
  | (.string bytes, d) => bytes.length + uptoBulk d + 1
  | (_, d) => uptoBulk d + 1
 end
def uptoSmall : (H : Type) → List (DataW H) → Bool := fun _ ds => decide (uptoBulkAll ds ≤ 1048576)
def OpenSpec.upto (s : _root_.Go.ChangeSpec) : _root_.Go.OpenSpec := { _root_.Go.OpenSpec.ofChange s with cond := some uptoSmall }

/-- 'orchestratorlaw53.AgentCapacity', WHERE WHAT IT READS IS OF BULK AT MOST 1048576: true; the input reads as it did. -/
def agentCapacityUptoRow : OpenClaim := { program := "ytojbebejhgbfeaagreat", sum := "2e5b5e8366d17e7cf60953ed50237523892b7d907a041f98fc825641fd03567c", func := "orchestrator/orchestratorlaw53.AgentCapacity", spec := "agentCapacity", inPlace := ["internal/bytealg.abigen_runtime_cmpstring", "slices.overlaps[orchestrator/api.LocalPod]", "slices.overlaps[orchestrator/api.Image]"], unfollowed := true, recurses := true, apart := false, narrowed := true }
def AgentCapacityUptoSaid : Prop := agentCapacityUptoRow.holds Tryz.pinned (OpenSpec.upto agentCapacitySpec)

/-- 'orchestratorlaw53.AgentFinished', WHERE WHAT IT READS IS OF BULK AT MOST 1048576: true; the input reads as it did. -/
def agentFinishedUptoRow : OpenClaim := { program := "ytojbebejhgbfeaagreat", sum := "2e5b5e8366d17e7cf60953ed50237523892b7d907a041f98fc825641fd03567c", func := "orchestrator/orchestratorlaw53.AgentFinished", spec := "agentFinished", inPlace := ["internal/bytealg.abigen_runtime_cmpstring", "slices.overlaps[orchestrator/api.LocalPod]", "slices.overlaps[orchestrator/api.Image]"], unfollowed := true, recurses := true, apart := false, narrowed := true }
def AgentFinishedUptoSaid : Prop := agentFinishedUptoRow.holds Tryz.pinned (OpenSpec.upto agentFinishedSpec)

/-- 'orchestratorlaw53.AgentPlays', WHERE WHAT IT READS IS OF BULK AT MOST 1048576: true; the input reads as it did. -/
def agentPlaysUptoRow : OpenClaim := { program := "ytojbebejhgbfeaagreat", sum := "2e5b5e8366d17e7cf60953ed50237523892b7d907a041f98fc825641fd03567c", func := "orchestrator/orchestratorlaw53.AgentPlays", spec := "agentPlays", inPlace := ["internal/bytealg.abigen_runtime_cmpstring", "slices.overlaps[orchestrator/api.LocalPod]", "slices.overlaps[orchestrator/api.Image]"], unfollowed := true, recurses := true, apart := false, narrowed := true }
def AgentPlaysUptoSaid : Prop := agentPlaysUptoRow.holds Tryz.pinned (OpenSpec.upto agentPlaysSpec)

/-- 'orchestratorlaw53.AgentReports', WHERE WHAT IT READS IS OF BULK AT MOST 1048576: true; the input reads as it did. -/
def agentReportsUptoRow : OpenClaim := { program := "ytojbebejhgbfeaagreat", sum := "2e5b5e8366d17e7cf60953ed50237523892b7d907a041f98fc825641fd03567c", func := "orchestrator/orchestratorlaw53.AgentReports", spec := "agentReports", inPlace := ["internal/bytealg.abigen_runtime_cmpstring", "slices.overlaps[orchestrator/api.LocalPod]", "slices.overlaps[orchestrator/api.Image]"], unfollowed := true, recurses := true, apart := false, narrowed := true }
def AgentReportsUptoSaid : Prop := agentReportsUptoRow.holds Tryz.pinned (OpenSpec.upto agentReportsSpec)

end Rows
end Go.Proofs.YtojbebejhgbfeaaGreat
