/-
  No cell of these rows narrows 'for every input' (looked for: loops, veiled, ifaces, maps, wideKeys, modest, calm, conditions, laid).
  DERIVED. THE GIVEN ROWS OF THIS SEAT. 4 by the template 'for every input the law returns true; each argument reads behind the call as it read before'; 0 by the template 'total and deterministic' (their statements: YtkgjaknjpdkaeaaTotals.lean).
  GIVEN WITH THE SEED: the statements are not yours to turn. If you find one false, say at which input.
  Laid BY PROGRAM, IN A SANDBOX (cutbox-rows.mjs): the forced cells as the released guide's own fill.sh prints them over the translation 0f682c732460d1db… (all of the seat's roots in one cut). By AI agents, Wed Nov 11 2026. No macro, syntax, notation, axiom, sorry.
-/
import Derived.Test.YtkgjaknjpdkaeaaChecked
import GoSem.Claim
import GoSem.ClaimJoined
import GoSem.ClaimMapViews
import Derived.JoinedTies
import Derived.KernelRfl
namespace Go.Proofs.Ytkgjaknjpdkaeaa
/- THE CELL 'sum', in the pinned program and in every row, IS THE sha256 OF THE DUMP (.gsa) THAT YtkgjaknjpdkaeaaProg.lean LOADS. Nothing in Lean hashes anything: it is a label: what it is worth is what the hold of that sum in a sandbox is worth. -/
noncomputable def Try.pinned : Pinned := { name := "ytkgjaknjpdkaeaa", sum := "0f682c732460d1dbc9973b582a97d2fe382290bd9f3eb95029df0f3204c9d291", checked := Try.checked }
namespace Rows
def none {H : Type} : Left H := { results := [], args := [] }

/-- 'orchestratorlaw32.ExpectWants': WHATEVER THE INPUT: true; the input reads as it did. -/
def expectWantsSpec : ChangeSpec := { name := "expectWants", fn := fun _ => fun
  | [d1, d2, d3, d4, d5] => { results := [.lit (.bool true)], args := [d1, d2, d3, d4, d5] }
  | _ => none }
def expectWantsRow : OpenClaim := { program := "ytkgjaknjpdkaeaa", sum := "0f682c732460d1dbc9973b582a97d2fe382290bd9f3eb95029df0f3204c9d291", func := "orchestrator/orchestratorlaw32.ExpectWants", spec := "expectWants", inPlace := ["internal/bytealg.abigen_runtime_cmpstring", "slices.overlaps[orchestrator/api.Expectation]"], unfollowed := true, recurses := true, apart := false }
def ExpectWantsSaid : Prop := expectWantsRow.holds Try.pinned (OpenSpec.ofChange expectWantsSpec)

/-- ITS FALSE NEIGHBOUR: 'it returns false'. Refute it at one input. -/
def expectWantsWrong : ChangeSpec := { name := "expectWants", fn := fun _ => fun
  | [d1, d2, d3, d4, d5] => { results := [.lit (.bool false)], args := [d1, d2, d3, d4, d5] }
  | _ => none }
def ExpectWantsWrongFalsely : Prop := expectWantsRow.holds Try.pinned (OpenSpec.ofChange expectWantsWrong)

/-- 'orchestratorlaw32.ExpectSees': WHATEVER THE INPUT: true; the input reads as it did. -/
def expectSeesSpec : ChangeSpec := { name := "expectSees", fn := fun _ => fun
  | [d1, d2, d3, d4, d5] => { results := [.lit (.bool true)], args := [d1, d2, d3, d4, d5] }
  | _ => none }
def expectSeesRow : OpenClaim := { program := "ytkgjaknjpdkaeaa", sum := "0f682c732460d1dbc9973b582a97d2fe382290bd9f3eb95029df0f3204c9d291", func := "orchestrator/orchestratorlaw32.ExpectSees", spec := "expectSees", inPlace := ["internal/bytealg.abigen_runtime_cmpstring", "slices.overlaps[orchestrator/api.Expectation]"], unfollowed := true, recurses := true, apart := false }
def ExpectSeesSaid : Prop := expectSeesRow.holds Try.pinned (OpenSpec.ofChange expectSeesSpec)

/-- ITS FALSE NEIGHBOUR: 'it returns false'. Refute it at one input. -/
def expectSeesWrong : ChangeSpec := { name := "expectSees", fn := fun _ => fun
  | [d1, d2, d3, d4, d5] => { results := [.lit (.bool false)], args := [d1, d2, d3, d4, d5] }
  | _ => none }
def ExpectSeesWrongFalsely : Prop := expectSeesRow.holds Try.pinned (OpenSpec.ofChange expectSeesWrong)

/-- 'orchestratorlaw32.ExpectSettles': WHATEVER THE INPUT: true; the input reads as it did. -/
def expectSettlesSpec : ChangeSpec := { name := "expectSettles", fn := fun _ => fun
  | [d1, d2, d3, d4, d5] => { results := [.lit (.bool true)], args := [d1, d2, d3, d4, d5] }
  | _ => none }
def expectSettlesRow : OpenClaim := { program := "ytkgjaknjpdkaeaa", sum := "0f682c732460d1dbc9973b582a97d2fe382290bd9f3eb95029df0f3204c9d291", func := "orchestrator/orchestratorlaw32.ExpectSettles", spec := "expectSettles", inPlace := ["internal/bytealg.abigen_runtime_cmpstring", "slices.overlaps[orchestrator/api.Expectation]"], unfollowed := true, recurses := true, apart := false }
def ExpectSettlesSaid : Prop := expectSettlesRow.holds Try.pinned (OpenSpec.ofChange expectSettlesSpec)

/-- ITS FALSE NEIGHBOUR: 'it returns false'. Refute it at one input. -/
def expectSettlesWrong : ChangeSpec := { name := "expectSettles", fn := fun _ => fun
  | [d1, d2, d3, d4, d5] => { results := [.lit (.bool false)], args := [d1, d2, d3, d4, d5] }
  | _ => none }
def ExpectSettlesWrongFalsely : Prop := expectSettlesRow.holds Try.pinned (OpenSpec.ofChange expectSettlesWrong)

/-- 'orchestratorlaw32.ExpectOthers': WHATEVER THE INPUT: true; the input reads as it did. -/
def expectOthersSpec : ChangeSpec := { name := "expectOthers", fn := fun _ => fun
  | [d1, d2, d3, d4, d5] => { results := [.lit (.bool true)], args := [d1, d2, d3, d4, d5] }
  | _ => none }
def expectOthersRow : OpenClaim := { program := "ytkgjaknjpdkaeaa", sum := "0f682c732460d1dbc9973b582a97d2fe382290bd9f3eb95029df0f3204c9d291", func := "orchestrator/orchestratorlaw32.ExpectOthers", spec := "expectOthers", inPlace := ["internal/bytealg.abigen_runtime_cmpstring", "slices.overlaps[orchestrator/api.Expectation]"], unfollowed := true, recurses := true, apart := false }
def ExpectOthersSaid : Prop := expectOthersRow.holds Try.pinned (OpenSpec.ofChange expectOthersSpec)

/-- ITS FALSE NEIGHBOUR: 'it returns false'. Refute it at one input. -/
def expectOthersWrong : ChangeSpec := { name := "expectOthers", fn := fun _ => fun
  | [d1, d2, d3, d4, d5] => { results := [.lit (.bool false)], args := [d1, d2, d3, d4, d5] }
  | _ => none }
def ExpectOthersWrongFalsely : Prop := expectOthersRow.holds Try.pinned (OpenSpec.ofChange expectOthersWrong)

/- THE SECOND FORM. 'bulk': how many values and letters a reading holds, each counted each time it is reached (what is shared counts as often as it is met; a slice's spare places count too). A statement '..UptoSaid' is the law's where the arguments, and the package variables that the reading takes, are together of bulk at most 1048576: NARROWER than '..Said'. Prove '..Said' where nothing that the law and all that it calls make is longer than what came in: it says more and counts as full. Else prove '..UptoSaid'. A law counts once. -/
mutual
def uptoBulk {H : Type} : DataW H → Nat
  | .lit (.string bytes) => bytes.length + 1
  | .lit _ => 1
  | .nil => 1
  | .ptr d => uptoBulk d + 1
  | .slice elems spare => uptoBulkAll elems + uptoBulkAll spare + 1
  | .agg parts => uptoBulkAll parts + 1
  | .iface _ d => uptoBulk d + 1
  | .map entries => uptoBulkEntries entries + 1
  | .held _ => 1
def uptoBulkAll {H : Type} : List (DataW H) → Nat
  | [] => 0
  | d :: r => uptoBulk d + uptoBulkAll r
def uptoBulkEntries {H : Type} : List (Lit × DataW H) → Nat
  | [] => 0
  | x :: r => uptoBulkEntry x + uptoBulkEntries r
def uptoBulkEntry {H : Type} : Lit × DataW H → Nat
  | (.string bytes, d) => bytes.length + uptoBulk d + 1
  | (_, d) => uptoBulk d + 1
 end
def uptoSmall : (H : Type) → List (DataW H) → Bool := fun _ ds => decide (uptoBulkAll ds ≤ 1048576)
def OpenSpec.upto (s : _root_.Go.ChangeSpec) : _root_.Go.OpenSpec := { _root_.Go.OpenSpec.ofChange s with cond := some uptoSmall }

/-- 'orchestratorlaw32.ExpectWants', WHERE WHAT IT READS IS OF BULK AT MOST 1048576: true; the input reads as it did. -/
def expectWantsUptoRow : OpenClaim := { program := "ytkgjaknjpdkaeaa", sum := "0f682c732460d1dbc9973b582a97d2fe382290bd9f3eb95029df0f3204c9d291", func := "orchestrator/orchestratorlaw32.ExpectWants", spec := "expectWants", inPlace := ["internal/bytealg.abigen_runtime_cmpstring", "slices.overlaps[orchestrator/api.Expectation]"], unfollowed := true, recurses := true, apart := false, narrowed := true }
def ExpectWantsUptoSaid : Prop := expectWantsUptoRow.holds Try.pinned (OpenSpec.upto expectWantsSpec)

/-- 'orchestratorlaw32.ExpectSees', WHERE WHAT IT READS IS OF BULK AT MOST 1048576: true; the input reads as it did. -/
def expectSeesUptoRow : OpenClaim := { program := "ytkgjaknjpdkaeaa", sum := "0f682c732460d1dbc9973b582a97d2fe382290bd9f3eb95029df0f3204c9d291", func := "orchestrator/orchestratorlaw32.ExpectSees", spec := "expectSees", inPlace := ["internal/bytealg.abigen_runtime_cmpstring", "slices.overlaps[orchestrator/api.Expectation]"], unfollowed := true, recurses := true, apart := false, narrowed := true }
def ExpectSeesUptoSaid : Prop := expectSeesUptoRow.holds Try.pinned (OpenSpec.upto expectSeesSpec)

/-- 'orchestratorlaw32.ExpectSettles', WHERE WHAT IT READS IS OF BULK AT MOST 1048576: true; the input reads as it did. -/
def expectSettlesUptoRow : OpenClaim := { program := "ytkgjaknjpdkaeaa", sum := "0f682c732460d1dbc9973b582a97d2fe382290bd9f3eb95029df0f3204c9d291", func := "orchestrator/orchestratorlaw32.ExpectSettles", spec := "expectSettles", inPlace := ["internal/bytealg.abigen_runtime_cmpstring", "slices.overlaps[orchestrator/api.Expectation]"], unfollowed := true, recurses := true, apart := false, narrowed := true }
def ExpectSettlesUptoSaid : Prop := expectSettlesUptoRow.holds Try.pinned (OpenSpec.upto expectSettlesSpec)

/-- 'orchestratorlaw32.ExpectOthers', WHERE WHAT IT READS IS OF BULK AT MOST 1048576: true; the input reads as it did. -/
def expectOthersUptoRow : OpenClaim := { program := "ytkgjaknjpdkaeaa", sum := "0f682c732460d1dbc9973b582a97d2fe382290bd9f3eb95029df0f3204c9d291", func := "orchestrator/orchestratorlaw32.ExpectOthers", spec := "expectOthers", inPlace := ["internal/bytealg.abigen_runtime_cmpstring", "slices.overlaps[orchestrator/api.Expectation]"], unfollowed := true, recurses := true, apart := false, narrowed := true }
def ExpectOthersUptoSaid : Prop := expectOthersUptoRow.holds Try.pinned (OpenSpec.upto expectOthersSpec)

end Rows
end Go.Proofs.Ytkgjaknjpdkaeaa
