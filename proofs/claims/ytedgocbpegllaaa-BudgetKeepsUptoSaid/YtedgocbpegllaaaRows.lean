/-
  No cell of these rows narrows 'for every input' (looked for: loops, veiled, ifaces, maps, wideKeys, modest, calm, conditions, laid).
  DERIVED. THE GIVEN ROWS OF THIS SEAT. 5 by the template 'for every input the law returns true; each argument reads behind the call as it read before'; 0 by the template 'total and deterministic' (their statements: YtedgocbpegllaaaTotals.lean).
  GIVEN WITH THE SEED: the statements are not yours to turn. If you find one false, say at which input.
  Laid BY PROGRAM, IN A SANDBOX (cutbox-rows.mjs): the forced cells as the released guide's own fill.sh prints them over the translation 615910ea0e27e587… (all of the seat's roots in one cut). By AI agents, Wed Nov 11 2026. No macro, syntax, notation, axiom, sorry.
-/
import Derived.Test.YtedgocbpegllaaaChecked
import GoSem.Claim
import GoSem.ClaimJoined
import GoSem.ClaimMapViews
import Derived.JoinedTies
import Derived.KernelRfl
namespace Go.Proofs.Ytedgocbpegllaaa
/- THE CELL 'sum', in the pinned program and in every row, IS THE sha256 OF THE DUMP (.gsa) THAT YtedgocbpegllaaaProg.lean LOADS. Nothing in Lean hashes anything: it is a label: what it is worth is what the hold of that sum in a sandbox is worth. -/
noncomputable def Try.pinned : Pinned := { name := "ytedgocbpegllaaa", sum := "615910ea0e27e5870232407fbd44639520a397c93b4e7039738f20de3f0509d7", checked := Try.checked }
namespace Rows
def none {H : Type} : Left H := { results := [], args := [] }

/-- 'orchestratorlaw40.BudgetStatus': WHATEVER THE INPUT: true; the input reads as it did. -/
def budgetStatusSpec : ChangeSpec := { name := "budgetStatus", fn := fun _ => fun
  | [d1, d2, d3, d4] => { results := [.lit (.bool true)], args := [d1, d2, d3, d4] }
  | _ => none }
def budgetStatusRow : OpenClaim := { program := "ytedgocbpegllaaa", sum := "615910ea0e27e5870232407fbd44639520a397c93b4e7039738f20de3f0509d7", func := "orchestrator/orchestratorlaw40.BudgetStatus", spec := "budgetStatus", inPlace := ["internal/bytealg.abigen_runtime_cmpstring", "slices.overlaps[orchestrator/api.WorkItem]"], unfollowed := true, recurses := true, apart := false }
def BudgetStatusSaid : Prop := budgetStatusRow.holds Try.pinned (OpenSpec.ofChange budgetStatusSpec)

/-- ITS FALSE NEIGHBOUR: 'it returns false'. Refute it at one input. -/
def budgetStatusWrong : ChangeSpec := { name := "budgetStatus", fn := fun _ => fun
  | [d1, d2, d3, d4] => { results := [.lit (.bool false)], args := [d1, d2, d3, d4] }
  | _ => none }
def BudgetStatusWrongFalsely : Prop := budgetStatusRow.holds Try.pinned (OpenSpec.ofChange budgetStatusWrong)

/-- 'orchestratorlaw40.BudgetEvicts': WHATEVER THE INPUT: true; the input reads as it did. -/
def budgetEvictsSpec : ChangeSpec := { name := "budgetEvicts", fn := fun _ => fun
  | [d1, d2, d3, d4] => { results := [.lit (.bool true)], args := [d1, d2, d3, d4] }
  | _ => none }
def budgetEvictsRow : OpenClaim := { program := "ytedgocbpegllaaa", sum := "615910ea0e27e5870232407fbd44639520a397c93b4e7039738f20de3f0509d7", func := "orchestrator/orchestratorlaw40.BudgetEvicts", spec := "budgetEvicts", inPlace := ["internal/bytealg.abigen_runtime_cmpstring", "slices.overlaps[orchestrator/api.WorkItem]"], unfollowed := true, recurses := true, apart := false }
def BudgetEvictsSaid : Prop := budgetEvictsRow.holds Try.pinned (OpenSpec.ofChange budgetEvictsSpec)

/-- ITS FALSE NEIGHBOUR: 'it returns false'. Refute it at one input. -/
def budgetEvictsWrong : ChangeSpec := { name := "budgetEvicts", fn := fun _ => fun
  | [d1, d2, d3, d4] => { results := [.lit (.bool false)], args := [d1, d2, d3, d4] }
  | _ => none }
def BudgetEvictsWrongFalsely : Prop := budgetEvictsRow.holds Try.pinned (OpenSpec.ofChange budgetEvictsWrong)

/-- 'orchestratorlaw40.BudgetKeeps': WHATEVER THE INPUT: true; the input reads as it did. -/
def budgetKeepsSpec : ChangeSpec := { name := "budgetKeeps", fn := fun _ => fun
  | [d1, d2, d3, d4, d5] => { results := [.lit (.bool true)], args := [d1, d2, d3, d4, d5] }
  | _ => none }
def budgetKeepsRow : OpenClaim := { program := "ytedgocbpegllaaa", sum := "615910ea0e27e5870232407fbd44639520a397c93b4e7039738f20de3f0509d7", func := "orchestrator/orchestratorlaw40.BudgetKeeps", spec := "budgetKeeps", inPlace := ["internal/bytealg.abigen_runtime_cmpstring", "slices.overlaps[orchestrator/api.WorkItem]"], unfollowed := true, recurses := true, apart := false }
def BudgetKeepsSaid : Prop := budgetKeepsRow.holds Try.pinned (OpenSpec.ofChange budgetKeepsSpec)

/-- ITS FALSE NEIGHBOUR: 'it returns false'. Refute it at one input. -/
def budgetKeepsWrong : ChangeSpec := { name := "budgetKeeps", fn := fun _ => fun
  | [d1, d2, d3, d4, d5] => { results := [.lit (.bool false)], args := [d1, d2, d3, d4, d5] }
  | _ => none }
def BudgetKeepsWrongFalsely : Prop := budgetKeepsRow.holds Try.pinned (OpenSpec.ofChange budgetKeepsWrong)

/-- 'orchestratorlaw40.BudgetUnready': WHATEVER THE INPUT: true; the input reads as it did. -/
def budgetUnreadySpec : ChangeSpec := { name := "budgetUnready", fn := fun _ => fun
  | [d1, d2, d3, d4] => { results := [.lit (.bool true)], args := [d1, d2, d3, d4] }
  | _ => none }
def budgetUnreadyRow : OpenClaim := { program := "ytedgocbpegllaaa", sum := "615910ea0e27e5870232407fbd44639520a397c93b4e7039738f20de3f0509d7", func := "orchestrator/orchestratorlaw40.BudgetUnready", spec := "budgetUnready", inPlace := ["internal/bytealg.abigen_runtime_cmpstring", "slices.overlaps[orchestrator/api.WorkItem]"], unfollowed := true, recurses := true, apart := false }
def BudgetUnreadySaid : Prop := budgetUnreadyRow.holds Try.pinned (OpenSpec.ofChange budgetUnreadySpec)

/-- ITS FALSE NEIGHBOUR: 'it returns false'. Refute it at one input. -/
def budgetUnreadyWrong : ChangeSpec := { name := "budgetUnready", fn := fun _ => fun
  | [d1, d2, d3, d4] => { results := [.lit (.bool false)], args := [d1, d2, d3, d4] }
  | _ => none }
def BudgetUnreadyWrongFalsely : Prop := budgetUnreadyRow.holds Try.pinned (OpenSpec.ofChange budgetUnreadyWrong)

/-- 'orchestratorlaw40.BudgetNumbers': WHATEVER THE INPUT: true; the input reads as it did. -/
def budgetNumbersSpec : ChangeSpec := { name := "budgetNumbers", fn := fun _ => fun
  | [d1, d2, d3, d4] => { results := [.lit (.bool true)], args := [d1, d2, d3, d4] }
  | _ => none }
def budgetNumbersRow : OpenClaim := { program := "ytedgocbpegllaaa", sum := "615910ea0e27e5870232407fbd44639520a397c93b4e7039738f20de3f0509d7", func := "orchestrator/orchestratorlaw40.BudgetNumbers", spec := "budgetNumbers", inPlace := ["internal/bytealg.abigen_runtime_cmpstring", "slices.overlaps[orchestrator/api.WorkItem]"], unfollowed := true, recurses := true, apart := false }
def BudgetNumbersSaid : Prop := budgetNumbersRow.holds Try.pinned (OpenSpec.ofChange budgetNumbersSpec)

/-- ITS FALSE NEIGHBOUR: 'it returns false'. Refute it at one input. -/
def budgetNumbersWrong : ChangeSpec := { name := "budgetNumbers", fn := fun _ => fun
  | [d1, d2, d3, d4] => { results := [.lit (.bool false)], args := [d1, d2, d3, d4] }
  | _ => none }
def BudgetNumbersWrongFalsely : Prop := budgetNumbersRow.holds Try.pinned (OpenSpec.ofChange budgetNumbersWrong)

/- THE SECOND FORM. 'bulk': how many values and letters a reading holds, each counted each time it is reached (what is shared counts as often as it is met; a slice's spare places count too). A statement '..UptoSaid' is the law's where the arguments, and the package variables that the reading takes, are together of bulk at most 1048576: NARROWER than '..Said'. Prove '..Said' where nothing that the law and all that it calls make is longer than what came in: it says more and counts as full. Else prove '..UptoSaid'. A law counts once. -/
mutual
def uptoBulk {H : Type} : DataW H → Nat
  | .lit (.string bytes) => bytes.length + 1
  | .lit _ => 1
  | .nil => 1
  | .ptr d => uptoBulk d + 1
  | .slice elems spare => uptoBulkAll elems + uptoBulkAll spare + 1
  | .agg parts => uptoBulkAll parts + 1
  | .iface _ d => uptoBulk d + 1
  | .map entries => uptoBulkEntries entries + 1
  | .held _ => 1
def uptoBulkAll {H : Type} : List (DataW H) → Nat
  | [] => 0
  | d :: r => uptoBulk d + uptoBulkAll r
def uptoBulkEntries {H : Type} : List (Lit × DataW H) → Nat
  | [] => 0
  | x :: r => uptoBulkEntry x + uptoBulkEntries r
def uptoBulkEntry {H : Type} : Lit × DataW H → Nat
  | (.string bytes, d) => bytes.length + uptoBulk d + 1
  | (_, d) => uptoBulk d + 1
 end
def uptoSmall : (H : Type) → List (DataW H) → Bool := fun _ ds => decide (uptoBulkAll ds ≤ 1048576)
def OpenSpec.upto (s : _root_.Go.ChangeSpec) : _root_.Go.OpenSpec := { _root_.Go.OpenSpec.ofChange s with cond := some uptoSmall }

/-- 'orchestratorlaw40.BudgetStatus', WHERE WHAT IT READS IS OF BULK AT MOST 1048576: true; the input reads as it did. -/
def budgetStatusUptoRow : OpenClaim := { program := "ytedgocbpegllaaa", sum := "615910ea0e27e5870232407fbd44639520a397c93b4e7039738f20de3f0509d7", func := "orchestrator/orchestratorlaw40.BudgetStatus", spec := "budgetStatus", inPlace := ["internal/bytealg.abigen_runtime_cmpstring", "slices.overlaps[orchestrator/api.WorkItem]"], unfollowed := true, recurses := true, apart := false, narrowed := true }
def BudgetStatusUptoSaid : Prop := budgetStatusUptoRow.holds Try.pinned (OpenSpec.upto budgetStatusSpec)

/-- 'orchestratorlaw40.BudgetEvicts', WHERE WHAT IT READS IS OF BULK AT MOST 1048576: true; the input reads as it did. -/
def budgetEvictsUptoRow : OpenClaim := { program := "ytedgocbpegllaaa", sum := "615910ea0e27e5870232407fbd44639520a397c93b4e7039738f20de3f0509d7", func := "orchestrator/orchestratorlaw40.BudgetEvicts", spec := "budgetEvicts", inPlace := ["internal/bytealg.abigen_runtime_cmpstring", "slices.overlaps[orchestrator/api.WorkItem]"], unfollowed := true, recurses := true, apart := false, narrowed := true }
def BudgetEvictsUptoSaid : Prop := budgetEvictsUptoRow.holds Try.pinned (OpenSpec.upto budgetEvictsSpec)

/-- 'orchestratorlaw40.BudgetKeeps', WHERE WHAT IT READS IS OF BULK AT MOST 1048576: true; the input reads as it did. -/
def budgetKeepsUptoRow : OpenClaim := { program := "ytedgocbpegllaaa", sum := "615910ea0e27e5870232407fbd44639520a397c93b4e7039738f20de3f0509d7", func := "orchestrator/orchestratorlaw40.BudgetKeeps", spec := "budgetKeeps", inPlace := ["internal/bytealg.abigen_runtime_cmpstring", "slices.overlaps[orchestrator/api.WorkItem]"], unfollowed := true, recurses := true, apart := false, narrowed := true }
def BudgetKeepsUptoSaid : Prop := budgetKeepsUptoRow.holds Try.pinned (OpenSpec.upto budgetKeepsSpec)

/-- 'orchestratorlaw40.BudgetUnready', WHERE WHAT IT READS IS OF BULK AT MOST 1048576: true; the input reads as it did. -/
def budgetUnreadyUptoRow : OpenClaim := { program := "ytedgocbpegllaaa", sum := "615910ea0e27e5870232407fbd44639520a397c93b4e7039738f20de3f0509d7", func := "orchestrator/orchestratorlaw40.BudgetUnready", spec := "budgetUnready", inPlace := ["internal/bytealg.abigen_runtime_cmpstring", "slices.overlaps[orchestrator/api.WorkItem]"], unfollowed := true, recurses := true, apart := false, narrowed := true }
def BudgetUnreadyUptoSaid : Prop := budgetUnreadyUptoRow.holds Try.pinned (OpenSpec.upto budgetUnreadySpec)

/-- 'orchestratorlaw40.BudgetNumbers', WHERE WHAT IT READS IS OF BULK AT MOST 1048576: true; the input reads as it did. -/
def budgetNumbersUptoRow : OpenClaim := { program := "ytedgocbpegllaaa", sum := "615910ea0e27e5870232407fbd44639520a397c93b4e7039738f20de3f0509d7", func := "orchestrator/orchestratorlaw40.BudgetNumbers", spec := "budgetNumbers", inPlace := ["internal/bytealg.abigen_runtime_cmpstring", "slices.overlaps[orchestrator/api.WorkItem]"], unfollowed := true, recurses := true, apart := false, narrowed := true }
def BudgetNumbersUptoSaid : Prop := budgetNumbersUptoRow.holds Try.pinned (OpenSpec.upto budgetNumbersSpec)

end Rows
end Go.Proofs.Ytedgocbpegllaaa
