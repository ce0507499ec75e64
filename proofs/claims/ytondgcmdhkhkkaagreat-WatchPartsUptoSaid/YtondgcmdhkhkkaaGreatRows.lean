/-
  NARROWER THAN 'FOR EVERY INPUT', by the rows' own cells (each row's printed sentence says how): WatchSays: loops · WatchComplete: loops · WatchFollows: loops · WatchExpires: loops · WatchParts: loops.
  DERIVED. THE GIVEN ROWS OF THIS SEAT. 5 by the template 'for every input the law returns true; each argument reads behind the call as it read before'; 0 by the template 'total and deterministic' (their statements: YtondgcmdhkhkkaaGreatTotals.lean).
  GIVEN WITH THE SEED: the statements are not yours to turn. If you find one false, say at which input.
  Laid BY PROGRAM, IN A SANDBOX (cutbox-rows.mjs): the forced cells as the released guide's own fill.sh prints them over the translation 2526300b1182ab8f… (all of the seat's roots in one cut). By AI agents, Wed Nov 11 2026. No macro, syntax, notation, axiom, sorry.
-/
import Derived.Test.YtondgcmdhkhkkaaGreatChecked
import GoSem.Claim
import GoSem.ClaimJoined
import GoSem.ClaimMapViews
import Derived.JoinedTies
import Derived.KernelRfl
namespace Go.Proofs.YtondgcmdhkhkkaaGreat
/- THE CELL 'sum', in the pinned program and in every row, IS THE sha256 OF THE DUMP (.gsa) THAT YtondgcmdhkhkkaaGreatProg.lean LOADS. Nothing in Lean hashes anything: it is a label: what it is worth is what the hold of that sum in a sandbox is worth. -/
noncomputable def Tryz.pinned : Pinned := { name := "ytondgcmdhkhkkaagreat", sum := "2526300b1182ab8f2a308385b066b8cd5517a4bb39ba6c2d4594f21a1c34dffd", checked := Tryz.checked }
namespace Rows
def none {H : Type} : Left H := { results := [], args := [] }

/-- 'orchestratorlaw15.WatchSays': WHATEVER THE INPUT: true; the input reads as it did. -/
def watchSaysSpec : ChangeSpec := { name := "watchSays", fn := fun _ => fun
  | [d1, d2, d3] => { results := [.lit (.bool true)], args := [d1, d2, d3] }
  | _ => none }
def watchSaysRow : OpenClaim := { program := "ytondgcmdhkhkkaagreat", sum := "2526300b1182ab8f2a308385b066b8cd5517a4bb39ba6c2d4594f21a1c34dffd", func := "orchestrator/orchestratorlaw15.WatchSays", spec := "watchSays", inPlace := ["internal/bytealg.abigen_runtime_cmpstring", "slices.overlaps[orchestrator/api.Object]"], unfollowed := true, recurses := true, loops := true, apart := false }
def WatchSaysSaid : Prop := watchSaysRow.holds Tryz.pinned (OpenSpec.ofChange watchSaysSpec)

/-- ITS FALSE NEIGHBOUR: 'it returns false'. Refute it at one input. -/
def watchSaysWrong : ChangeSpec := { name := "watchSays", fn := fun _ => fun
  | [d1, d2, d3] => { results := [.lit (.bool false)], args := [d1, d2, d3] }
  | _ => none }
def WatchSaysWrongFalsely : Prop := watchSaysRow.holds Tryz.pinned (OpenSpec.ofChange watchSaysWrong)

/-- 'orchestratorlaw15.WatchComplete': WHATEVER THE INPUT: true; the input reads as it did. -/
def watchCompleteSpec : ChangeSpec := { name := "watchComplete", fn := fun _ => fun
  | [d1, d2, d3, d4] => { results := [.lit (.bool true)], args := [d1, d2, d3, d4] }
  | _ => none }
def watchCompleteRow : OpenClaim := { program := "ytondgcmdhkhkkaagreat", sum := "2526300b1182ab8f2a308385b066b8cd5517a4bb39ba6c2d4594f21a1c34dffd", func := "orchestrator/orchestratorlaw15.WatchComplete", spec := "watchComplete", inPlace := ["internal/bytealg.abigen_runtime_cmpstring", "slices.overlaps[orchestrator/api.Object]"], unfollowed := true, recurses := true, loops := true, apart := false }
def WatchCompleteSaid : Prop := watchCompleteRow.holds Tryz.pinned (OpenSpec.ofChange watchCompleteSpec)

/-- ITS FALSE NEIGHBOUR: 'it returns false'. Refute it at one input. -/
def watchCompleteWrong : ChangeSpec := { name := "watchComplete", fn := fun _ => fun
  | [d1, d2, d3, d4] => { results := [.lit (.bool false)], args := [d1, d2, d3, d4] }
  | _ => none }
def WatchCompleteWrongFalsely : Prop := watchCompleteRow.holds Tryz.pinned (OpenSpec.ofChange watchCompleteWrong)

/-- 'orchestratorlaw15.WatchFollows': WHATEVER THE INPUT: true; the input reads as it did. -/
def watchFollowsSpec : ChangeSpec := { name := "watchFollows", fn := fun _ => fun
  | [d1, d2, d3, d4] => { results := [.lit (.bool true)], args := [d1, d2, d3, d4] }
  | _ => none }
def watchFollowsRow : OpenClaim := { program := "ytondgcmdhkhkkaagreat", sum := "2526300b1182ab8f2a308385b066b8cd5517a4bb39ba6c2d4594f21a1c34dffd", func := "orchestrator/orchestratorlaw15.WatchFollows", spec := "watchFollows", inPlace := ["internal/bytealg.abigen_runtime_cmpstring", "slices.overlaps[orchestrator/api.Object]"], unfollowed := true, recurses := true, loops := true, apart := false }
def WatchFollowsSaid : Prop := watchFollowsRow.holds Tryz.pinned (OpenSpec.ofChange watchFollowsSpec)

/-- ITS FALSE NEIGHBOUR: 'it returns false'. Refute it at one input. -/
def watchFollowsWrong : ChangeSpec := { name := "watchFollows", fn := fun _ => fun
  | [d1, d2, d3, d4] => { results := [.lit (.bool false)], args := [d1, d2, d3, d4] }
  | _ => none }
def WatchFollowsWrongFalsely : Prop := watchFollowsRow.holds Tryz.pinned (OpenSpec.ofChange watchFollowsWrong)

/-- 'orchestratorlaw15.WatchExpires': WHATEVER THE INPUT: true; the input reads as it did. -/
def watchExpiresSpec : ChangeSpec := { name := "watchExpires", fn := fun _ => fun
  | [d1, d2, d3, d4] => { results := [.lit (.bool true)], args := [d1, d2, d3, d4] }
  | _ => none }
def watchExpiresRow : OpenClaim := { program := "ytondgcmdhkhkkaagreat", sum := "2526300b1182ab8f2a308385b066b8cd5517a4bb39ba6c2d4594f21a1c34dffd", func := "orchestrator/orchestratorlaw15.WatchExpires", spec := "watchExpires", inPlace := ["internal/bytealg.abigen_runtime_cmpstring", "slices.overlaps[orchestrator/api.Object]"], unfollowed := true, recurses := true, loops := true, apart := false }
def WatchExpiresSaid : Prop := watchExpiresRow.holds Tryz.pinned (OpenSpec.ofChange watchExpiresSpec)

/-- ITS FALSE NEIGHBOUR: 'it returns false'. Refute it at one input. -/
def watchExpiresWrong : ChangeSpec := { name := "watchExpires", fn := fun _ => fun
  | [d1, d2, d3, d4] => { results := [.lit (.bool false)], args := [d1, d2, d3, d4] }
  | _ => none }
def WatchExpiresWrongFalsely : Prop := watchExpiresRow.holds Tryz.pinned (OpenSpec.ofChange watchExpiresWrong)

/-- 'orchestratorlaw15.WatchParts': WHATEVER THE INPUT: true; the input reads as it did. -/
def watchPartsSpec : ChangeSpec := { name := "watchParts", fn := fun _ => fun
  | [d1, d2, d3] => { results := [.lit (.bool true)], args := [d1, d2, d3] }
  | _ => none }
def watchPartsRow : OpenClaim := { program := "ytondgcmdhkhkkaagreat", sum := "2526300b1182ab8f2a308385b066b8cd5517a4bb39ba6c2d4594f21a1c34dffd", func := "orchestrator/orchestratorlaw15.WatchParts", spec := "watchParts", inPlace := ["internal/bytealg.abigen_runtime_cmpstring", "slices.overlaps[orchestrator/api.Object]"], unfollowed := true, recurses := true, loops := true, apart := false }
def WatchPartsSaid : Prop := watchPartsRow.holds Tryz.pinned (OpenSpec.ofChange watchPartsSpec)

/-- ITS FALSE NEIGHBOUR: 'it returns false'. Refute it at one input. -/
def watchPartsWrong : ChangeSpec := { name := "watchParts", fn := fun _ => fun
  | [d1, d2, d3] => { results := [.lit (.bool false)], args := [d1, d2, d3] }
  | _ => none }
def WatchPartsWrongFalsely : Prop := watchPartsRow.holds Tryz.pinned (OpenSpec.ofChange watchPartsWrong)

/- THE SECOND FORM. 'bulk': how many values and letters a reading holds, each counted each time it is reached (what is shared counts as often as it is met; a slice's spare places count too). A statement '..UptoSaid' is the law's where the arguments, and the package variables that the reading takes, are together of bulk at most 1048576: NARROWER than '..Said'. Prove '..Said' where nothing that the law and all that it calls make is longer than what came in: it says more and counts as full. Else prove '..UptoSaid'. A law counts once. -/
mutual
def uptoBulk {H : Type} : DataW H → Nat
  | .lit (.string bytes) => bytes.length + 1
  | .lit _ => 1
  | .nil => 1
  | .ptr d => uptoBulk d + 1
  | .slice elems spare => uptoBulkAll elems + uptoBulkAll spare + 1
  | .agg parts => uptoBulkAll parts + 1
  | .iface _ d => uptoBulk d + 1
  | .map entries => uptoBulkEntries entries + 1
  | .held _ => 1
def uptoBulkAll {H : Type} : List (DataW H) → Nat
  | [] => 0
  | d :: r => uptoBulk d + uptoBulkAll r
def uptoBulkEntries {H : Type} : List (Lit × DataW H) → Nat
  | [] => 0
  | x :: r => uptoBulkEntry x + uptoBulkEntries r
def uptoBulkEntry {H : Type} : Lit × DataW H → Nat
  | (.string bytes, d) => bytes.length + uptoBulk d + 1
  | (_, d) => uptoBulk d + 1
 end
def uptoSmall : (H : Type) → List (DataW H) → Bool := fun _ ds => decide (uptoBulkAll ds ≤ 1048576)
def OpenSpec.upto (s : _root_.Go.ChangeSpec) : _root_.Go.OpenSpec := { _root_.Go.OpenSpec.ofChange s with cond := some uptoSmall }

/-- 'orchestratorlaw15.WatchSays', WHERE WHAT IT READS IS OF BULK AT MOST 1048576: true; the input reads as it did. -/
def watchSaysUptoRow : OpenClaim := { program := "ytondgcmdhkhkkaagreat", sum := "2526300b1182ab8f2a308385b066b8cd5517a4bb39ba6c2d4594f21a1c34dffd", func := "orchestrator/orchestratorlaw15.WatchSays", spec := "watchSays", inPlace := ["internal/bytealg.abigen_runtime_cmpstring", "slices.overlaps[orchestrator/api.Object]"], unfollowed := true, recurses := true, loops := true, apart := false, narrowed := true }
def WatchSaysUptoSaid : Prop := watchSaysUptoRow.holds Tryz.pinned (OpenSpec.upto watchSaysSpec)

/-- 'orchestratorlaw15.WatchComplete', WHERE WHAT IT READS IS OF BULK AT MOST 1048576: true; the input reads as it did. -/
def watchCompleteUptoRow : OpenClaim := { program := "ytondgcmdhkhkkaagreat", sum := "2526300b1182ab8f2a308385b066b8cd5517a4bb39ba6c2d4594f21a1c34dffd", func := "orchestrator/orchestratorlaw15.WatchComplete", spec := "watchComplete", inPlace := ["internal/bytealg.abigen_runtime_cmpstring", "slices.overlaps[orchestrator/api.Object]"], unfollowed := true, recurses := true, loops := true, apart := false, narrowed := true }
def WatchCompleteUptoSaid : Prop := watchCompleteUptoRow.holds Tryz.pinned (OpenSpec.upto watchCompleteSpec)

/-- 'orchestratorlaw15.WatchFollows', WHERE WHAT IT READS IS OF BULK AT MOST 1048576: true; the input reads as it did. -/
def watchFollowsUptoRow : OpenClaim := { program := "ytondgcmdhkhkkaagreat", sum := "2526300b1182ab8f2a308385b066b8cd5517a4bb39ba6c2d4594f21a1c34dffd", func := "orchestrator/orchestratorlaw15.WatchFollows", spec := "watchFollows", inPlace := ["internal/bytealg.abigen_runtime_cmpstring", "slices.overlaps[orchestrator/api.Object]"], unfollowed := true, recurses := true, loops := true, apart := false, narrowed := true }
def WatchFollowsUptoSaid : Prop := watchFollowsUptoRow.holds Tryz.pinned (OpenSpec.upto watchFollowsSpec)

/-- 'orchestratorlaw15.WatchExpires', WHERE WHAT IT READS IS OF BULK AT MOST 1048576: true; the input reads as it did. -/
def watchExpiresUptoRow : OpenClaim := { program := "ytondgcmdhkhkkaagreat", sum := "2526300b1182ab8f2a308385b066b8cd5517a4bb39ba6c2d4594f21a1c34dffd", func := "orchestrator/orchestratorlaw15.WatchExpires", spec := "watchExpires", inPlace := ["internal/bytealg.abigen_runtime_cmpstring", "slices.overlaps[orchestrator/api.Object]"], unfollowed := true, recurses := true, loops := true, apart := false, narrowed := true }
def WatchExpiresUptoSaid : Prop := watchExpiresUptoRow.holds Tryz.pinned (OpenSpec.upto watchExpiresSpec)

/-- 'orchestratorlaw15.WatchParts', WHERE WHAT IT READS IS OF BULK AT MOST 1048576: true; the input reads as it did. -/
def watchPartsUptoRow : OpenClaim := { program := "ytondgcmdhkhkkaagreat", sum := "2526300b1182ab8f2a308385b066b8cd5517a4bb39ba6c2d4594f21a1c34dffd", func := "orchestrator/orchestratorlaw15.WatchParts", spec := "watchParts", inPlace := ["internal/bytealg.abigen_runtime_cmpstring", "slices.overlaps[orchestrator/api.Object]"], unfollowed := true, recurses := true, loops := true, apart := false, narrowed := true }
def WatchPartsUptoSaid : Prop := watchPartsUptoRow.holds Tryz.pinned (OpenSpec.upto watchPartsSpec)

end Rows
end Go.Proofs.YtondgcmdhkhkkaaGreat
