/-
  NARROWER THAN 'FOR EVERY INPUT', by the rows' own cells (each row's printed sentence says how): StoreRevisions: loops · StoreHistory: loops · StoreCompacts: loops · StoreLists: loops.
  DERIVED. THE GIVEN ROWS OF THIS SEAT. 4 by the template 'for every input the law returns true; each argument reads behind the call as it read before'; 0 by the template 'total and deterministic' (their statements: YtbopaemngpbdgaaTotals.lean).
  GIVEN WITH THE SEED: the statements are not yours to turn. If you find one false, say at which input.
  Laid BY PROGRAM, IN A SANDBOX (cutbox-rows.mjs): the forced cells as the released guide's own fill.sh prints them over the translation fe14aaf3e46e0cee… (all of the seat's roots in one cut). By AI agents, Wed Nov 11 2026. No macro, syntax, notation, axiom, sorry.
-/
import Derived.Test.YtbopaemngpbdgaaChecked
import GoSem.Claim
import GoSem.ClaimJoined
import GoSem.ClaimMapViews
import Derived.JoinedTies
import Derived.KernelRfl
namespace Go.Proofs.Ytbopaemngpbdgaa
/- THE CELL 'sum', in the pinned program and in every row, IS THE sha256 OF THE DUMP (.gsa) THAT YtbopaemngpbdgaaProg.lean LOADS. Nothing in Lean hashes anything: it is a label: what it is worth is what the hold of that sum in a sandbox is worth. -/
noncomputable def Try.pinned : Pinned := { name := "ytbopaemngpbdgaa", sum := "fe14aaf3e46e0ceeb74739c0dbddc07437f4c2cc826ce6816cf3aa0ca50faa61", checked := Try.checked }
namespace Rows
def none {H : Type} : Left H := { results := [], args := [] }

/-- 'orchestratorlaw14.StoreRevisions': WHATEVER THE INPUT: true; the input reads as it did. -/
def storeRevisionsSpec : ChangeSpec := { name := "storeRevisions", fn := fun _ => fun
  | [d] => { results := [.lit (.bool true)], args := [d] }
  | _ => none }
def storeRevisionsRow : OpenClaim := { program := "ytbopaemngpbdgaa", sum := "fe14aaf3e46e0ceeb74739c0dbddc07437f4c2cc826ce6816cf3aa0ca50faa61", func := "orchestrator/orchestratorlaw14.StoreRevisions", spec := "storeRevisions", inPlace := ["internal/bytealg.abigen_runtime_cmpstring", "slices.overlaps[orchestrator/api.Object]"], unfollowed := true, recurses := true, loops := true, apart := false }
def StoreRevisionsSaid : Prop := storeRevisionsRow.holds Try.pinned (OpenSpec.ofChange storeRevisionsSpec)

/-- ITS FALSE NEIGHBOUR: 'it returns false'. Refute it at one input. -/
def storeRevisionsWrong : ChangeSpec := { name := "storeRevisions", fn := fun _ => fun
  | [d] => { results := [.lit (.bool false)], args := [d] }
  | _ => none }
def StoreRevisionsWrongFalsely : Prop := storeRevisionsRow.holds Try.pinned (OpenSpec.ofChange storeRevisionsWrong)

/-- 'orchestratorlaw14.StoreHistory': WHATEVER THE INPUT: true; the input reads as it did. -/
def storeHistorySpec : ChangeSpec := { name := "storeHistory", fn := fun _ => fun
  | [d] => { results := [.lit (.bool true)], args := [d] }
  | _ => none }
def storeHistoryRow : OpenClaim := { program := "ytbopaemngpbdgaa", sum := "fe14aaf3e46e0ceeb74739c0dbddc07437f4c2cc826ce6816cf3aa0ca50faa61", func := "orchestrator/orchestratorlaw14.StoreHistory", spec := "storeHistory", inPlace := ["internal/bytealg.abigen_runtime_cmpstring", "slices.overlaps[orchestrator/api.Object]"], unfollowed := true, recurses := true, loops := true, apart := false }
def StoreHistorySaid : Prop := storeHistoryRow.holds Try.pinned (OpenSpec.ofChange storeHistorySpec)

/-- ITS FALSE NEIGHBOUR: 'it returns false'. Refute it at one input. -/
def storeHistoryWrong : ChangeSpec := { name := "storeHistory", fn := fun _ => fun
  | [d] => { results := [.lit (.bool false)], args := [d] }
  | _ => none }
def StoreHistoryWrongFalsely : Prop := storeHistoryRow.holds Try.pinned (OpenSpec.ofChange storeHistoryWrong)

/-- 'orchestratorlaw14.StoreCompacts': WHATEVER THE INPUT: true; the input reads as it did. -/
def storeCompactsSpec : ChangeSpec := { name := "storeCompacts", fn := fun _ => fun
  | [d1, d2] => { results := [.lit (.bool true)], args := [d1, d2] }
  | _ => none }
def storeCompactsRow : OpenClaim := { program := "ytbopaemngpbdgaa", sum := "fe14aaf3e46e0ceeb74739c0dbddc07437f4c2cc826ce6816cf3aa0ca50faa61", func := "orchestrator/orchestratorlaw14.StoreCompacts", spec := "storeCompacts", inPlace := ["internal/bytealg.abigen_runtime_cmpstring", "slices.overlaps[orchestrator/api.Object]"], unfollowed := true, recurses := true, loops := true, apart := false }
def StoreCompactsSaid : Prop := storeCompactsRow.holds Try.pinned (OpenSpec.ofChange storeCompactsSpec)

/-- ITS FALSE NEIGHBOUR: 'it returns false'. Refute it at one input. -/
def storeCompactsWrong : ChangeSpec := { name := "storeCompacts", fn := fun _ => fun
  | [d1, d2] => { results := [.lit (.bool false)], args := [d1, d2] }
  | _ => none }
def StoreCompactsWrongFalsely : Prop := storeCompactsRow.holds Try.pinned (OpenSpec.ofChange storeCompactsWrong)

/-- 'orchestratorlaw14.StoreLists': WHATEVER THE INPUT: true; the input reads as it did. -/
def storeListsSpec : ChangeSpec := { name := "storeLists", fn := fun _ => fun
  | [d1, d2] => { results := [.lit (.bool true)], args := [d1, d2] }
  | _ => none }
def storeListsRow : OpenClaim := { program := "ytbopaemngpbdgaa", sum := "fe14aaf3e46e0ceeb74739c0dbddc07437f4c2cc826ce6816cf3aa0ca50faa61", func := "orchestrator/orchestratorlaw14.StoreLists", spec := "storeLists", inPlace := ["internal/bytealg.abigen_runtime_cmpstring", "slices.overlaps[orchestrator/api.Object]"], unfollowed := true, recurses := true, loops := true, apart := false }
def StoreListsSaid : Prop := storeListsRow.holds Try.pinned (OpenSpec.ofChange storeListsSpec)

/-- ITS FALSE NEIGHBOUR: 'it returns false'. Refute it at one input. -/
def storeListsWrong : ChangeSpec := { name := "storeLists", fn := fun _ => fun
  | [d1, d2] => { results := [.lit (.bool false)], args := [d1, d2] }
  | _ => none }
def StoreListsWrongFalsely : Prop := storeListsRow.holds Try.pinned (OpenSpec.ofChange storeListsWrong)

/- THE SECOND FORM. 'bulk': how many values and letters a reading holds, each counted each time it is reached (what is shared counts as often as it is met; a slice's spare places count too). A statement '..UptoSaid' is the law's where the arguments, and the package variables that the reading takes, are together of bulk at most 1048576: NARROWER than '..Said'. Prove '..Said' where nothing that the law and all that it calls make is longer than what came in: it says more and counts as full. Else prove '..UptoSaid'. A law counts once. -/
mutual
def uptoBulk {H : Type} : DataW H → Nat
  | .lit (.string bytes) => bytes.length + 1
  | .lit _ => 1
  | .nil => 1
  | .ptr d => uptoBulk d + 1
  | .slice elems spare => uptoBulkAll elems + uptoBulkAll spare + 1
  | .agg parts => uptoBulkAll parts + 1
  | .iface _ d => uptoBulk d + 1
  | .map entries => uptoBulkEntries entries + 1
  | .held _ => 1
def uptoBulkAll {H : Type} : List (DataW H) → Nat
  | [] => 0
  | d :: r => uptoBulk d + uptoBulkAll r
def uptoBulkEntries {H : Type} : List (Lit × DataW H) → Nat
  | [] => 0
  | x :: r => uptoBulkEntry x + uptoBulkEntries r
def uptoBulkEntry {H : Type} : Lit × DataW H → Nat
  | (.string bytes, d) => bytes.length + uptoBulk d + 1
  | (_, d) => uptoBulk d + 1
 end
def uptoSmall : (H : Type) → List (DataW H) → Bool := fun _ ds => decide (uptoBulkAll ds ≤ 1048576)
def OpenSpec.upto (s : _root_.Go.ChangeSpec) : _root_.Go.OpenSpec := { _root_.Go.OpenSpec.ofChange s with cond := some uptoSmall }

/-- 'orchestratorlaw14.StoreRevisions', WHERE WHAT IT READS IS OF BULK AT MOST 1048576: true; the input reads as it did. -/
def storeRevisionsUptoRow : OpenClaim := { program := "ytbopaemngpbdgaa", sum := "fe14aaf3e46e0ceeb74739c0dbddc07437f4c2cc826ce6816cf3aa0ca50faa61", func := "orchestrator/orchestratorlaw14.StoreRevisions", spec := "storeRevisions", inPlace := ["internal/bytealg.abigen_runtime_cmpstring", "slices.overlaps[orchestrator/api.Object]"], unfollowed := true, recurses := true, loops := true, apart := false, narrowed := true }
def StoreRevisionsUptoSaid : Prop := storeRevisionsUptoRow.holds Try.pinned (OpenSpec.upto storeRevisionsSpec)

/-- 'orchestratorlaw14.StoreHistory', WHERE WHAT IT READS IS OF BULK AT MOST 1048576: true; the input reads as it did. -/
def storeHistoryUptoRow : OpenClaim := { program := "ytbopaemngpbdgaa", sum := "fe14aaf3e46e0ceeb74739c0dbddc07437f4c2cc826ce6816cf3aa0ca50faa61", func := "orchestrator/orchestratorlaw14.StoreHistory", spec := "storeHistory", inPlace := ["internal/bytealg.abigen_runtime_cmpstring", "slices.overlaps[orchestrator/api.Object]"], unfollowed := true, recurses := true, loops := true, apart := false, narrowed := true }
def StoreHistoryUptoSaid : Prop := storeHistoryUptoRow.holds Try.pinned (OpenSpec.upto storeHistorySpec)

/-- 'orchestratorlaw14.StoreCompacts', WHERE WHAT IT READS IS OF BULK AT MOST 1048576: true; the input reads as it did. -/
def storeCompactsUptoRow : OpenClaim := { program := "ytbopaemngpbdgaa", sum := "fe14aaf3e46e0ceeb74739c0dbddc07437f4c2cc826ce6816cf3aa0ca50faa61", func := "orchestrator/orchestratorlaw14.StoreCompacts", spec := "storeCompacts", inPlace := ["internal/bytealg.abigen_runtime_cmpstring", "slices.overlaps[orchestrator/api.Object]"], unfollowed := true, recurses := true, loops := true, apart := false, narrowed := true }
def StoreCompactsUptoSaid : Prop := storeCompactsUptoRow.holds Try.pinned (OpenSpec.upto storeCompactsSpec)

/-- 'orchestratorlaw14.StoreLists', WHERE WHAT IT READS IS OF BULK AT MOST 1048576: true; the input reads as it did. -/
def storeListsUptoRow : OpenClaim := { program := "ytbopaemngpbdgaa", sum := "fe14aaf3e46e0ceeb74739c0dbddc07437f4c2cc826ce6816cf3aa0ca50faa61", func := "orchestrator/orchestratorlaw14.StoreLists", spec := "storeLists", inPlace := ["internal/bytealg.abigen_runtime_cmpstring", "slices.overlaps[orchestrator/api.Object]"], unfollowed := true, recurses := true, loops := true, apart := false, narrowed := true }
def StoreListsUptoSaid : Prop := storeListsUptoRow.holds Try.pinned (OpenSpec.upto storeListsSpec)

end Rows
end Go.Proofs.Ytbopaemngpbdgaa
