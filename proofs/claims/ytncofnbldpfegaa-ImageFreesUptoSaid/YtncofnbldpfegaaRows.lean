/-
  No cell of these rows narrows 'for every input' (looked for: loops, veiled, ifaces, maps, wideKeys, modest, calm, conditions, laid).
  DERIVED. THE GIVEN ROWS OF THIS SEAT. 4 by the template 'for every input the law returns true; each argument reads behind the call as it read before'; 0 by the template 'total and deterministic' (their statements: YtncofnbldpfegaaTotals.lean).
  GIVEN WITH THE SEED: the statements are not yours to turn. If you find one false, say at which input.
  Laid BY PROGRAM, IN A SANDBOX (cutbox-rows.mjs): the forced cells as the released guide's own fill.sh prints them over the translation ba6a9a7579892d04… (all of the seat's roots in one cut). By AI agents, Wed Nov 11 2026. No macro, syntax, notation, axiom, sorry.
-/
import Derived.Test.YtncofnbldpfegaaChecked
import GoSem.Claim
import GoSem.ClaimJoined
import GoSem.ClaimMapViews
import Derived.JoinedTies
import Derived.KernelRfl
namespace Go.Proofs.Ytncofnbldpfegaa
/- THE CELL 'sum', in the pinned program and in every row, IS THE sha256 OF THE DUMP (.gsa) THAT YtncofnbldpfegaaProg.lean LOADS. Nothing in Lean hashes anything: it is a label: what it is worth is what the hold of that sum in a sandbox is worth. -/
noncomputable def Try.pinned : Pinned := { name := "ytncofnbldpfegaa", sum := "ba6a9a7579892d04e1129dbab4ebb5d4b56789450088e8bbf52eecf424a698fe", checked := Try.checked }
namespace Rows
def none {H : Type} : Left H := { results := [], args := [] }

/-- 'orchestratorlaw52.ImageUses': WHATEVER THE INPUT: true; the input reads as it did. -/
def imageUsesSpec : ChangeSpec := { name := "imageUses", fn := fun _ => fun
  | [d1, d2, d3, d4] => { results := [.lit (.bool true)], args := [d1, d2, d3, d4] }
  | _ => none }
def imageUsesRow : OpenClaim := { program := "ytncofnbldpfegaa", sum := "ba6a9a7579892d04e1129dbab4ebb5d4b56789450088e8bbf52eecf424a698fe", func := "orchestrator/orchestratorlaw52.ImageUses", spec := "imageUses", inPlace := ["slices.overlaps[orchestrator/api.Image]"], unfollowed := true, recurses := true, apart := false }
def ImageUsesSaid : Prop := imageUsesRow.holds Try.pinned (OpenSpec.ofChange imageUsesSpec)

/-- ITS FALSE NEIGHBOUR: 'it returns false'. Refute it at one input. -/
def imageUsesWrong : ChangeSpec := { name := "imageUses", fn := fun _ => fun
  | [d1, d2, d3, d4] => { results := [.lit (.bool false)], args := [d1, d2, d3, d4] }
  | _ => none }
def ImageUsesWrongFalsely : Prop := imageUsesRow.holds Try.pinned (OpenSpec.ofChange imageUsesWrong)

/-- 'orchestratorlaw52.ImageCollects': WHATEVER THE INPUT: true; the input reads as it did. -/
def imageCollectsSpec : ChangeSpec := { name := "imageCollects", fn := fun _ => fun
  | [d1, d2, d3, d4, d5] => { results := [.lit (.bool true)], args := [d1, d2, d3, d4, d5] }
  | _ => none }
def imageCollectsRow : OpenClaim := { program := "ytncofnbldpfegaa", sum := "ba6a9a7579892d04e1129dbab4ebb5d4b56789450088e8bbf52eecf424a698fe", func := "orchestrator/orchestratorlaw52.ImageCollects", spec := "imageCollects", inPlace := ["slices.overlaps[orchestrator/api.Image]"], unfollowed := true, recurses := true, apart := false }
def ImageCollectsSaid : Prop := imageCollectsRow.holds Try.pinned (OpenSpec.ofChange imageCollectsSpec)

/-- ITS FALSE NEIGHBOUR: 'it returns false'. Refute it at one input. -/
def imageCollectsWrong : ChangeSpec := { name := "imageCollects", fn := fun _ => fun
  | [d1, d2, d3, d4, d5] => { results := [.lit (.bool false)], args := [d1, d2, d3, d4, d5] }
  | _ => none }
def ImageCollectsWrongFalsely : Prop := imageCollectsRow.holds Try.pinned (OpenSpec.ofChange imageCollectsWrong)

/-- 'orchestratorlaw52.ImageKeepsUsed': WHATEVER THE INPUT: true; the input reads as it did. -/
def imageKeepsUsedSpec : ChangeSpec := { name := "imageKeepsUsed", fn := fun _ => fun
  | [d1, d2, d3, d4, d5] => { results := [.lit (.bool true)], args := [d1, d2, d3, d4, d5] }
  | _ => none }
def imageKeepsUsedRow : OpenClaim := { program := "ytncofnbldpfegaa", sum := "ba6a9a7579892d04e1129dbab4ebb5d4b56789450088e8bbf52eecf424a698fe", func := "orchestrator/orchestratorlaw52.ImageKeepsUsed", spec := "imageKeepsUsed", inPlace := ["slices.overlaps[orchestrator/api.Image]"], unfollowed := true, recurses := true, apart := false }
def ImageKeepsUsedSaid : Prop := imageKeepsUsedRow.holds Try.pinned (OpenSpec.ofChange imageKeepsUsedSpec)

/-- ITS FALSE NEIGHBOUR: 'it returns false'. Refute it at one input. -/
def imageKeepsUsedWrong : ChangeSpec := { name := "imageKeepsUsed", fn := fun _ => fun
  | [d1, d2, d3, d4, d5] => { results := [.lit (.bool false)], args := [d1, d2, d3, d4, d5] }
  | _ => none }
def ImageKeepsUsedWrongFalsely : Prop := imageKeepsUsedRow.holds Try.pinned (OpenSpec.ofChange imageKeepsUsedWrong)

/-- 'orchestratorlaw52.ImageFrees': WHATEVER THE INPUT: true; the input reads as it did. -/
def imageFreesSpec : ChangeSpec := { name := "imageFrees", fn := fun _ => fun
  | [d1, d2, d3, d4, d5] => { results := [.lit (.bool true)], args := [d1, d2, d3, d4, d5] }
  | _ => none }
def imageFreesRow : OpenClaim := { program := "ytncofnbldpfegaa", sum := "ba6a9a7579892d04e1129dbab4ebb5d4b56789450088e8bbf52eecf424a698fe", func := "orchestrator/orchestratorlaw52.ImageFrees", spec := "imageFrees", inPlace := ["slices.overlaps[orchestrator/api.Image]"], unfollowed := true, recurses := true, apart := false }
def ImageFreesSaid : Prop := imageFreesRow.holds Try.pinned (OpenSpec.ofChange imageFreesSpec)

/-- ITS FALSE NEIGHBOUR: 'it returns false'. Refute it at one input. -/
def imageFreesWrong : ChangeSpec := { name := "imageFrees", fn := fun _ => fun
  | [d1, d2, d3, d4, d5] => { results := [.lit (.bool false)], args := [d1, d2, d3, d4, d5] }
  | _ => none }
def ImageFreesWrongFalsely : Prop := imageFreesRow.holds Try.pinned (OpenSpec.ofChange imageFreesWrong)

/- THE SECOND FORM. 'bulk': how many values and letters a reading holds, each counted each time it is reached (what is shared counts as often as it is met; a slice's spare places count too). A statement '..UptoSaid' is the law's where the arguments, and the package variables that the reading takes, are together of bulk at most 1048576: NARROWER than '..Said'. Prove '..Said' where nothing that the law and all that it calls make is longer than what came in: it says more and counts as full. Else prove '..UptoSaid'. A law counts once. -/
mutual
def uptoBulk {H : Type} : DataW H → Nat
  | .lit (.string bytes) => bytes.length + 1
  | .lit _ => 1
  | .nil => 1
  | .ptr d => uptoBulk d + 1
  | .slice elems spare => uptoBulkAll elems + uptoBulkAll spare + 1
  | .agg parts => uptoBulkAll parts + 1
  | .iface _ d => uptoBulk d + 1
  | .map entries => uptoBulkEntries entries + 1
  | .held _ => 1
def uptoBulkAll {H : Type} : List (DataW H) → Nat
  | [] => 0
  | d :: r => uptoBulk d + uptoBulkAll r
def uptoBulkEntries {H : Type} : List (Lit × DataW H) → Nat
  | [] => 0
  | x :: r => uptoBulkEntry x + uptoBulkEntries r
def uptoBulkEntry {H : Type} : Lit × DataW H → Nat
  | (.string bytes, d) => bytes.length + uptoBulk d + 1
  | (_, d) => uptoBulk d + 1
 end
def uptoSmall : (H : Type) → List (DataW H) → Bool := fun _ ds => decide (uptoBulkAll ds ≤ 1048576)
def OpenSpec.upto (s : _root_.Go.ChangeSpec) : _root_.Go.OpenSpec := { _root_.Go.OpenSpec.ofChange s with cond := some uptoSmall }

/-- 'orchestratorlaw52.ImageUses', WHERE WHAT IT READS IS OF BULK AT MOST 1048576: true; the input reads as it did. -/
def imageUsesUptoRow : OpenClaim := { program := "ytncofnbldpfegaa", sum := "ba6a9a7579892d04e1129dbab4ebb5d4b56789450088e8bbf52eecf424a698fe", func := "orchestrator/orchestratorlaw52.ImageUses", spec := "imageUses", inPlace := ["slices.overlaps[orchestrator/api.Image]"], unfollowed := true, recurses := true, apart := false, narrowed := true }
def ImageUsesUptoSaid : Prop := imageUsesUptoRow.holds Try.pinned (OpenSpec.upto imageUsesSpec)

/-- 'orchestratorlaw52.ImageCollects', WHERE WHAT IT READS IS OF BULK AT MOST 1048576: true; the input reads as it did. -/
def imageCollectsUptoRow : OpenClaim := { program := "ytncofnbldpfegaa", sum := "ba6a9a7579892d04e1129dbab4ebb5d4b56789450088e8bbf52eecf424a698fe", func := "orchestrator/orchestratorlaw52.ImageCollects", spec := "imageCollects", inPlace := ["slices.overlaps[orchestrator/api.Image]"], unfollowed := true, recurses := true, apart := false, narrowed := true }
def ImageCollectsUptoSaid : Prop := imageCollectsUptoRow.holds Try.pinned (OpenSpec.upto imageCollectsSpec)

/-- 'orchestratorlaw52.ImageKeepsUsed', WHERE WHAT IT READS IS OF BULK AT MOST 1048576: true; the input reads as it did. -/
def imageKeepsUsedUptoRow : OpenClaim := { program := "ytncofnbldpfegaa", sum := "ba6a9a7579892d04e1129dbab4ebb5d4b56789450088e8bbf52eecf424a698fe", func := "orchestrator/orchestratorlaw52.ImageKeepsUsed", spec := "imageKeepsUsed", inPlace := ["slices.overlaps[orchestrator/api.Image]"], unfollowed := true, recurses := true, apart := false, narrowed := true }
def ImageKeepsUsedUptoSaid : Prop := imageKeepsUsedUptoRow.holds Try.pinned (OpenSpec.upto imageKeepsUsedSpec)

/-- 'orchestratorlaw52.ImageFrees', WHERE WHAT IT READS IS OF BULK AT MOST 1048576: true; the input reads as it did. -/
def imageFreesUptoRow : OpenClaim := { program := "ytncofnbldpfegaa", sum := "ba6a9a7579892d04e1129dbab4ebb5d4b56789450088e8bbf52eecf424a698fe", func := "orchestrator/orchestratorlaw52.ImageFrees", spec := "imageFrees", inPlace := ["slices.overlaps[orchestrator/api.Image]"], unfollowed := true, recurses := true, apart := false, narrowed := true }
def ImageFreesUptoSaid : Prop := imageFreesUptoRow.holds Try.pinned (OpenSpec.upto imageFreesSpec)

end Rows
end Go.Proofs.Ytncofnbldpfegaa
