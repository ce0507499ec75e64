/-
  No cell of these rows narrows 'for every input' (looked for: loops, veiled, ifaces, maps, wideKeys, modest, calm, conditions, laid).
  DERIVED. THE GIVEN ROWS OF THIS SEAT. 4 by the template 'for every input the law returns true; each argument reads behind the call as it read before'; 0 by the template 'total and deterministic' (their statements: YtpgonamdmlgifaaTotals.lean).
  GIVEN WITH THE SEED: the statements are not yours to turn. If you find one false, say at which input.
  Laid BY PROGRAM, IN A SANDBOX (cutbox-rows.mjs): the forced cells as the released guide's own fill.sh prints them over the translation 497fbebb605dbf2b… (all of the seat's roots in one cut). By AI agents, Wed Nov 11 2026. No macro, syntax, notation, axiom, sorry.
-/
import Derived.Test.YtpgonamdmlgifaaChecked
import GoSem.Claim
import GoSem.ClaimJoined
import GoSem.ClaimMapViews
import Derived.JoinedTies
import Derived.KernelRfl
namespace Go.Proofs.Ytpgonamdmlgifaa
/- THE CELL 'sum', in the pinned program and in every row, IS THE sha256 OF THE DUMP (.gsa) THAT YtpgonamdmlgifaaProg.lean LOADS. Nothing in Lean hashes anything: it is a label: what it is worth is what the hold of that sum in a sandbox is worth. -/
noncomputable def Try.pinned : Pinned := { name := "ytpgonamdmlgifaa", sum := "497fbebb605dbf2b70ee322c6ec7098e9d778a12b0ec15a425c15471836bad35", checked := Try.checked }
namespace Rows
def none {H : Type} : Left H := { results := [], args := [] }

/-- 'orchestratorlaw31.WorkqueuePlays': WHATEVER THE INPUT: true; the input reads as it did. -/
def workqueuePlaysSpec : ChangeSpec := { name := "workqueuePlays", fn := fun _ => fun
  | [d] => { results := [.lit (.bool true)], args := [d] }
  | _ => none }
def workqueuePlaysRow : OpenClaim := { program := "ytpgonamdmlgifaa", sum := "497fbebb605dbf2b70ee322c6ec7098e9d778a12b0ec15a425c15471836bad35", func := "orchestrator/orchestratorlaw31.WorkqueuePlays", spec := "workqueuePlays", inPlace := ["internal/bytealg.abigen_runtime_cmpstring", "slices.overlaps[string]", "slices.overlaps[orchestrator/api.WorkItem]"], unfollowed := true, recurses := true, apart := false }
def WorkqueuePlaysSaid : Prop := workqueuePlaysRow.holds Try.pinned (OpenSpec.ofChange workqueuePlaysSpec)

/-- ITS FALSE NEIGHBOUR: 'it returns false'. Refute it at one input. -/
def workqueuePlaysWrong : ChangeSpec := { name := "workqueuePlays", fn := fun _ => fun
  | [d] => { results := [.lit (.bool false)], args := [d] }
  | _ => none }
def WorkqueuePlaysWrongFalsely : Prop := workqueuePlaysRow.holds Try.pinned (OpenSpec.ofChange workqueuePlaysWrong)

/-- 'orchestratorlaw31.WorkqueueInvariant': WHATEVER THE INPUT: true; the input reads as it did. -/
def workqueueInvariantSpec : ChangeSpec := { name := "workqueueInvariant", fn := fun _ => fun
  | [d] => { results := [.lit (.bool true)], args := [d] }
  | _ => none }
def workqueueInvariantRow : OpenClaim := { program := "ytpgonamdmlgifaa", sum := "497fbebb605dbf2b70ee322c6ec7098e9d778a12b0ec15a425c15471836bad35", func := "orchestrator/orchestratorlaw31.WorkqueueInvariant", spec := "workqueueInvariant", inPlace := ["internal/bytealg.abigen_runtime_cmpstring", "slices.overlaps[string]", "slices.overlaps[orchestrator/api.WorkItem]"], unfollowed := true, recurses := true, apart := false }
def WorkqueueInvariantSaid : Prop := workqueueInvariantRow.holds Try.pinned (OpenSpec.ofChange workqueueInvariantSpec)

/-- ITS FALSE NEIGHBOUR: 'it returns false'. Refute it at one input. -/
def workqueueInvariantWrong : ChangeSpec := { name := "workqueueInvariant", fn := fun _ => fun
  | [d] => { results := [.lit (.bool false)], args := [d] }
  | _ => none }
def WorkqueueInvariantWrongFalsely : Prop := workqueueInvariantRow.holds Try.pinned (OpenSpec.ofChange workqueueInvariantWrong)

/-- 'orchestratorlaw31.WorkqueueNoLoss': WHATEVER THE INPUT: true; the input reads as it did. -/
def workqueueNoLossSpec : ChangeSpec := { name := "workqueueNoLoss", fn := fun _ => fun
  | [d1, d2] => { results := [.lit (.bool true)], args := [d1, d2] }
  | _ => none }
def workqueueNoLossRow : OpenClaim := { program := "ytpgonamdmlgifaa", sum := "497fbebb605dbf2b70ee322c6ec7098e9d778a12b0ec15a425c15471836bad35", func := "orchestrator/orchestratorlaw31.WorkqueueNoLoss", spec := "workqueueNoLoss", inPlace := ["internal/bytealg.abigen_runtime_cmpstring", "slices.overlaps[string]", "slices.overlaps[orchestrator/api.WorkItem]"], unfollowed := true, recurses := true, apart := false }
def WorkqueueNoLossSaid : Prop := workqueueNoLossRow.holds Try.pinned (OpenSpec.ofChange workqueueNoLossSpec)

/-- ITS FALSE NEIGHBOUR: 'it returns false'. Refute it at one input. -/
def workqueueNoLossWrong : ChangeSpec := { name := "workqueueNoLoss", fn := fun _ => fun
  | [d1, d2] => { results := [.lit (.bool false)], args := [d1, d2] }
  | _ => none }
def WorkqueueNoLossWrongFalsely : Prop := workqueueNoLossRow.holds Try.pinned (OpenSpec.ofChange workqueueNoLossWrong)

/-- 'orchestratorlaw31.WorkqueueOne': WHATEVER THE INPUT: true; the input reads as it did. -/
def workqueueOneSpec : ChangeSpec := { name := "workqueueOne", fn := fun _ => fun
  | [d] => { results := [.lit (.bool true)], args := [d] }
  | _ => none }
def workqueueOneRow : OpenClaim := { program := "ytpgonamdmlgifaa", sum := "497fbebb605dbf2b70ee322c6ec7098e9d778a12b0ec15a425c15471836bad35", func := "orchestrator/orchestratorlaw31.WorkqueueOne", spec := "workqueueOne", inPlace := ["internal/bytealg.abigen_runtime_cmpstring", "slices.overlaps[string]", "slices.overlaps[orchestrator/api.WorkItem]"], unfollowed := true, recurses := true, apart := false }
def WorkqueueOneSaid : Prop := workqueueOneRow.holds Try.pinned (OpenSpec.ofChange workqueueOneSpec)

/-- ITS FALSE NEIGHBOUR: 'it returns false'. Refute it at one input. -/
def workqueueOneWrong : ChangeSpec := { name := "workqueueOne", fn := fun _ => fun
  | [d] => { results := [.lit (.bool false)], args := [d] }
  | _ => none }
def WorkqueueOneWrongFalsely : Prop := workqueueOneRow.holds Try.pinned (OpenSpec.ofChange workqueueOneWrong)

/- THE SECOND FORM. 'bulk': how many values and letters a reading holds, each counted each time it is reached (what is shared counts as often as it is met; a slice's spare places count too). A statement '..UptoSaid' is the law's where the arguments, and the package variables that the reading takes, are together of bulk at most 1048576: NARROWER than '..Said'. Prove '..Said' where nothing that the law and all that it calls make is longer than what came in: it says more and counts as full. Else prove '..UptoSaid'. A law counts once. -/
mutual
def uptoBulk {H : Type} : DataW H → Nat
  | .lit (.string bytes) => bytes.length + 1
  | .lit _ => 1
  | .nil => 1
  | .ptr d => uptoBulk d + 1
  | .slice elems spare => uptoBulkAll elems + uptoBulkAll spare + 1
  | .agg parts => uptoBulkAll parts + 1
  | .iface _ d => uptoBulk d + 1
  | .map entries => uptoBulkEntries entries + 1
  | .held _ => 1
def uptoBulkAll {H : Type} : List (DataW H) → Nat
  | [] => 0
  | d :: r => uptoBulk d + uptoBulkAll r
def uptoBulkEntries {H : Type} : List (Lit × DataW H) → Nat
  | [] => 0
  | x :: r => uptoBulkEntry x + uptoBulkEntries r
def uptoBulkEntry {H : Type} : Lit × DataW H → Nat
  | (.string bytes, d) => bytes.length + uptoBulk d + 1
  | (_, d) => uptoBulk d + 1
 end
def uptoSmall : (H : Type) → List (DataW H) → Bool := fun _ ds => decide (uptoBulkAll ds ≤ 1048576)
def OpenSpec.upto (s : _root_.Go.ChangeSpec) : _root_.Go.OpenSpec := { _root_.Go.OpenSpec.ofChange s with cond := some uptoSmall }

/-- 'orchestratorlaw31.WorkqueuePlays', WHERE WHAT IT READS IS OF BULK AT MOST 1048576: true; the input reads as it did. -/
def workqueuePlaysUptoRow : OpenClaim := { program := "ytpgonamdmlgifaa", sum := "497fbebb605dbf2b70ee322c6ec7098e9d778a12b0ec15a425c15471836bad35", func := "orchestrator/orchestratorlaw31.WorkqueuePlays", spec := "workqueuePlays", inPlace := ["internal/bytealg.abigen_runtime_cmpstring", "slices.overlaps[string]", "slices.overlaps[orchestrator/api.WorkItem]"], unfollowed := true, recurses := true, apart := false, narrowed := true }
def WorkqueuePlaysUptoSaid : Prop := workqueuePlaysUptoRow.holds Try.pinned (OpenSpec.upto workqueuePlaysSpec)

/-- 'orchestratorlaw31.WorkqueueInvariant', WHERE WHAT IT READS IS OF BULK AT MOST 1048576: true; the input reads as it did. -/
def workqueueInvariantUptoRow : OpenClaim := { program := "ytpgonamdmlgifaa", sum := "497fbebb605dbf2b70ee322c6ec7098e9d778a12b0ec15a425c15471836bad35", func := "orchestrator/orchestratorlaw31.WorkqueueInvariant", spec := "workqueueInvariant", inPlace := ["internal/bytealg.abigen_runtime_cmpstring", "slices.overlaps[string]", "slices.overlaps[orchestrator/api.WorkItem]"], unfollowed := true, recurses := true, apart := false, narrowed := true }
def WorkqueueInvariantUptoSaid : Prop := workqueueInvariantUptoRow.holds Try.pinned (OpenSpec.upto workqueueInvariantSpec)

/-- 'orchestratorlaw31.WorkqueueNoLoss', WHERE WHAT IT READS IS OF BULK AT MOST 1048576: true; the input reads as it did. -/
def workqueueNoLossUptoRow : OpenClaim := { program := "ytpgonamdmlgifaa", sum := "497fbebb605dbf2b70ee322c6ec7098e9d778a12b0ec15a425c15471836bad35", func := "orchestrator/orchestratorlaw31.WorkqueueNoLoss", spec := "workqueueNoLoss", inPlace := ["internal/bytealg.abigen_runtime_cmpstring", "slices.overlaps[string]", "slices.overlaps[orchestrator/api.WorkItem]"], unfollowed := true, recurses := true, apart := false, narrowed := true }
def WorkqueueNoLossUptoSaid : Prop := workqueueNoLossUptoRow.holds Try.pinned (OpenSpec.upto workqueueNoLossSpec)

/-- 'orchestratorlaw31.WorkqueueOne', WHERE WHAT IT READS IS OF BULK AT MOST 1048576: true; the input reads as it did. -/
def workqueueOneUptoRow : OpenClaim := { program := "ytpgonamdmlgifaa", sum := "497fbebb605dbf2b70ee322c6ec7098e9d778a12b0ec15a425c15471836bad35", func := "orchestrator/orchestratorlaw31.WorkqueueOne", spec := "workqueueOne", inPlace := ["internal/bytealg.abigen_runtime_cmpstring", "slices.overlaps[string]", "slices.overlaps[orchestrator/api.WorkItem]"], unfollowed := true, recurses := true, apart := false, narrowed := true }
def WorkqueueOneUptoSaid : Prop := workqueueOneUptoRow.holds Try.pinned (OpenSpec.upto workqueueOneSpec)

end Rows
end Go.Proofs.Ytpgonamdmlgifaa
