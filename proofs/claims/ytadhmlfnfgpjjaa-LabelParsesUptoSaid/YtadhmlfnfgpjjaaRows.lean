/-
  No cell of these rows narrows 'for every input' (looked for: loops, veiled, ifaces, maps, wideKeys, modest, calm, conditions, laid).
  DERIVED. THE GIVEN ROWS OF THIS SEAT. 8 by the template 'for every input the law returns true; each argument reads behind the call as it read before'; 0 by the template 'total and deterministic' (their statements: YtadhmlfnfgpjjaaTotals.lean).
  GIVEN WITH THE SEED: the statements are not yours to turn. If you find one false, say at which input.
  Laid BY PROGRAM, IN A SANDBOX (cutbox-rows.mjs): the forced cells as the released guide's own fill.sh prints them over the translation 46c34c09ceab5f44… (all of the seat's roots in one cut). By AI agents, Wed Nov 11 2026. No macro, syntax, notation, axiom, sorry.
-/
import Derived.Test.YtadhmlfnfgpjjaaChecked
import GoSem.Claim
import GoSem.ClaimJoined
import GoSem.ClaimMapViews
import Derived.JoinedTies
import Derived.KernelRfl
namespace Go.Proofs.Ytadhmlfnfgpjjaa
/- THE CELL 'sum', in the pinned program and in every row, IS THE sha256 OF THE DUMP (.gsa) THAT YtadhmlfnfgpjjaaProg.lean LOADS. Nothing in Lean hashes anything: it is a label: what it is worth is what the hold of that sum in a sandbox is worth. -/
noncomputable def Try.pinned : Pinned := { name := "ytadhmlfnfgpjjaa", sum := "46c34c09ceab5f447ad954cfd22248f5e7d55468b8f063232059da4f7466a710", checked := Try.checked }
namespace Rows
def none {H : Type} : Left H := { results := [], args := [] }

/-- 'orchestratorlaw03.LabelValid': WHATEVER THE INPUT: true; the input reads as it did. -/
def labelValidSpec : ChangeSpec := { name := "labelValid", fn := fun _ => fun
  | [d1, d2] => { results := [.lit (.bool true)], args := [d1, d2] }
  | _ => none }
def labelValidRow : OpenClaim := { program := "ytadhmlfnfgpjjaa", sum := "46c34c09ceab5f447ad954cfd22248f5e7d55468b8f063232059da4f7466a710", func := "orchestrator/orchestratorlaw03.LabelValid", spec := "labelValid", inPlace := ["internal/bytealg.IndexByteString", "internal/bytealg.IndexString", "internal/abi.NoEscape", "internal/bytealg.MakeNoZero", "slices.overlaps[orchestrator/api.Label]"], unfollowed := true, recurses := true, named := ["internal/bytealg.MaxLen"], apart := false }
def LabelValidSaid : Prop := labelValidRow.holds Try.pinned (OpenSpec.ofChange labelValidSpec)

/-- ITS FALSE NEIGHBOUR: 'it returns false'. Refute it at one input. -/
def labelValidWrong : ChangeSpec := { name := "labelValid", fn := fun _ => fun
  | [d1, d2] => { results := [.lit (.bool false)], args := [d1, d2] }
  | _ => none }
def LabelValidWrongFalsely : Prop := labelValidRow.holds Try.pinned (OpenSpec.ofChange labelValidWrong)

/-- 'orchestratorlaw03.LabelLookup': WHATEVER THE INPUT: true; the input reads as it did. -/
def labelLookupSpec : ChangeSpec := { name := "labelLookup", fn := fun _ => fun
  | [d1, d2, d3] => { results := [.lit (.bool true)], args := [d1, d2, d3] }
  | _ => none }
def labelLookupRow : OpenClaim := { program := "ytadhmlfnfgpjjaa", sum := "46c34c09ceab5f447ad954cfd22248f5e7d55468b8f063232059da4f7466a710", func := "orchestrator/orchestratorlaw03.LabelLookup", spec := "labelLookup", inPlace := ["internal/bytealg.IndexByteString", "internal/bytealg.IndexString", "internal/abi.NoEscape", "internal/bytealg.MakeNoZero", "slices.overlaps[orchestrator/api.Label]"], unfollowed := true, recurses := true, named := ["internal/bytealg.MaxLen"], apart := false }
def LabelLookupSaid : Prop := labelLookupRow.holds Try.pinned (OpenSpec.ofChange labelLookupSpec)

/-- ITS FALSE NEIGHBOUR: 'it returns false'. Refute it at one input. -/
def labelLookupWrong : ChangeSpec := { name := "labelLookup", fn := fun _ => fun
  | [d1, d2, d3] => { results := [.lit (.bool false)], args := [d1, d2, d3] }
  | _ => none }
def LabelLookupWrongFalsely : Prop := labelLookupRow.holds Try.pinned (OpenSpec.ofChange labelLookupWrong)

/-- 'orchestratorlaw03.LabelMatches': WHATEVER THE INPUT: true; the input reads as it did. -/
def labelMatchesSpec : ChangeSpec := { name := "labelMatches", fn := fun _ => fun
  | [d1, d2] => { results := [.lit (.bool true)], args := [d1, d2] }
  | _ => none }
def labelMatchesRow : OpenClaim := { program := "ytadhmlfnfgpjjaa", sum := "46c34c09ceab5f447ad954cfd22248f5e7d55468b8f063232059da4f7466a710", func := "orchestrator/orchestratorlaw03.LabelMatches", spec := "labelMatches", inPlace := ["internal/bytealg.IndexByteString", "internal/bytealg.IndexString", "internal/abi.NoEscape", "internal/bytealg.MakeNoZero", "slices.overlaps[orchestrator/api.Label]"], unfollowed := true, recurses := true, named := ["internal/bytealg.MaxLen"], apart := false }
def LabelMatchesSaid : Prop := labelMatchesRow.holds Try.pinned (OpenSpec.ofChange labelMatchesSpec)

/-- ITS FALSE NEIGHBOUR: 'it returns false'. Refute it at one input. -/
def labelMatchesWrong : ChangeSpec := { name := "labelMatches", fn := fun _ => fun
  | [d1, d2] => { results := [.lit (.bool false)], args := [d1, d2] }
  | _ => none }
def LabelMatchesWrongFalsely : Prop := labelMatchesRow.holds Try.pinned (OpenSpec.ofChange labelMatchesWrong)

/-- 'orchestratorlaw03.LabelParses': WHATEVER THE INPUT: true; the input reads as it did. -/
def labelParsesSpec : ChangeSpec := { name := "labelParses", fn := fun _ => fun
  | [d] => { results := [.lit (.bool true)], args := [d] }
  | _ => none }
def labelParsesRow : OpenClaim := { program := "ytadhmlfnfgpjjaa", sum := "46c34c09ceab5f447ad954cfd22248f5e7d55468b8f063232059da4f7466a710", func := "orchestrator/orchestratorlaw03.LabelParses", spec := "labelParses", inPlace := ["internal/bytealg.IndexByteString", "internal/bytealg.IndexString", "internal/abi.NoEscape", "internal/bytealg.MakeNoZero", "slices.overlaps[orchestrator/api.Label]"], unfollowed := true, recurses := true, named := ["internal/bytealg.MaxLen"], apart := false }
def LabelParsesSaid : Prop := labelParsesRow.holds Try.pinned (OpenSpec.ofChange labelParsesSpec)

/-- ITS FALSE NEIGHBOUR: 'it returns false'. Refute it at one input. -/
def labelParsesWrong : ChangeSpec := { name := "labelParses", fn := fun _ => fun
  | [d] => { results := [.lit (.bool false)], args := [d] }
  | _ => none }
def LabelParsesWrongFalsely : Prop := labelParsesRow.holds Try.pinned (OpenSpec.ofChange labelParsesWrong)

/-- 'orchestratorlaw03.LabelPrints': WHATEVER THE INPUT: true; the input reads as it did. -/
def labelPrintsSpec : ChangeSpec := { name := "labelPrints", fn := fun _ => fun
  | [d] => { results := [.lit (.bool true)], args := [d] }
  | _ => none }
def labelPrintsRow : OpenClaim := { program := "ytadhmlfnfgpjjaa", sum := "46c34c09ceab5f447ad954cfd22248f5e7d55468b8f063232059da4f7466a710", func := "orchestrator/orchestratorlaw03.LabelPrints", spec := "labelPrints", inPlace := ["internal/bytealg.IndexByteString", "internal/bytealg.IndexString", "internal/abi.NoEscape", "internal/bytealg.MakeNoZero", "slices.overlaps[orchestrator/api.Label]"], unfollowed := true, recurses := true, named := ["internal/bytealg.MaxLen"], apart := false }
def LabelPrintsSaid : Prop := labelPrintsRow.holds Try.pinned (OpenSpec.ofChange labelPrintsSpec)

/-- ITS FALSE NEIGHBOUR: 'it returns false'. Refute it at one input. -/
def labelPrintsWrong : ChangeSpec := { name := "labelPrints", fn := fun _ => fun
  | [d] => { results := [.lit (.bool false)], args := [d] }
  | _ => none }
def LabelPrintsWrongFalsely : Prop := labelPrintsRow.holds Try.pinned (OpenSpec.ofChange labelPrintsWrong)

/-- 'orchestratorlaw03.LabelRoundTrip': WHATEVER THE INPUT: true; the input reads as it did. -/
def labelRoundTripSpec : ChangeSpec := { name := "labelRoundTrip", fn := fun _ => fun
  | [d1, d2] => { results := [.lit (.bool true)], args := [d1, d2] }
  | _ => none }
def labelRoundTripRow : OpenClaim := { program := "ytadhmlfnfgpjjaa", sum := "46c34c09ceab5f447ad954cfd22248f5e7d55468b8f063232059da4f7466a710", func := "orchestrator/orchestratorlaw03.LabelRoundTrip", spec := "labelRoundTrip", inPlace := ["internal/bytealg.IndexByteString", "internal/bytealg.IndexString", "internal/abi.NoEscape", "internal/bytealg.MakeNoZero", "slices.overlaps[orchestrator/api.Label]"], unfollowed := true, recurses := true, named := ["internal/bytealg.MaxLen"], apart := false }
def LabelRoundTripSaid : Prop := labelRoundTripRow.holds Try.pinned (OpenSpec.ofChange labelRoundTripSpec)

/-- ITS FALSE NEIGHBOUR: 'it returns false'. Refute it at one input. -/
def labelRoundTripWrong : ChangeSpec := { name := "labelRoundTrip", fn := fun _ => fun
  | [d1, d2] => { results := [.lit (.bool false)], args := [d1, d2] }
  | _ => none }
def LabelRoundTripWrongFalsely : Prop := labelRoundTripRow.holds Try.pinned (OpenSpec.ofChange labelRoundTripWrong)

/-- 'orchestratorlaw03.LabelEdits': WHATEVER THE INPUT: true; the input reads as it did. -/
def labelEditsSpec : ChangeSpec := { name := "labelEdits", fn := fun _ => fun
  | [d1, d2, d3, d4] => { results := [.lit (.bool true)], args := [d1, d2, d3, d4] }
  | _ => none }
def labelEditsRow : OpenClaim := { program := "ytadhmlfnfgpjjaa", sum := "46c34c09ceab5f447ad954cfd22248f5e7d55468b8f063232059da4f7466a710", func := "orchestrator/orchestratorlaw03.LabelEdits", spec := "labelEdits", inPlace := ["internal/bytealg.IndexByteString", "internal/bytealg.IndexString", "internal/abi.NoEscape", "internal/bytealg.MakeNoZero", "slices.overlaps[orchestrator/api.Label]"], unfollowed := true, recurses := true, named := ["internal/bytealg.MaxLen"], apart := false }
def LabelEditsSaid : Prop := labelEditsRow.holds Try.pinned (OpenSpec.ofChange labelEditsSpec)

/-- ITS FALSE NEIGHBOUR: 'it returns false'. Refute it at one input. -/
def labelEditsWrong : ChangeSpec := { name := "labelEdits", fn := fun _ => fun
  | [d1, d2, d3, d4] => { results := [.lit (.bool false)], args := [d1, d2, d3, d4] }
  | _ => none }
def LabelEditsWrongFalsely : Prop := labelEditsRow.holds Try.pinned (OpenSpec.ofChange labelEditsWrong)

/-- 'orchestratorlaw03.LabelNarrows': WHATEVER THE INPUT: true; the input reads as it did. -/
def labelNarrowsSpec : ChangeSpec := { name := "labelNarrows", fn := fun _ => fun
  | [d1, d2, d3] => { results := [.lit (.bool true)], args := [d1, d2, d3] }
  | _ => none }
def labelNarrowsRow : OpenClaim := { program := "ytadhmlfnfgpjjaa", sum := "46c34c09ceab5f447ad954cfd22248f5e7d55468b8f063232059da4f7466a710", func := "orchestrator/orchestratorlaw03.LabelNarrows", spec := "labelNarrows", inPlace := ["internal/bytealg.IndexByteString", "internal/bytealg.IndexString", "internal/abi.NoEscape", "internal/bytealg.MakeNoZero", "slices.overlaps[orchestrator/api.Label]"], unfollowed := true, recurses := true, named := ["internal/bytealg.MaxLen"], apart := false }
def LabelNarrowsSaid : Prop := labelNarrowsRow.holds Try.pinned (OpenSpec.ofChange labelNarrowsSpec)

/-- ITS FALSE NEIGHBOUR: 'it returns false'. Refute it at one input. -/
def labelNarrowsWrong : ChangeSpec := { name := "labelNarrows", fn := fun _ => fun
  | [d1, d2, d3] => { results := [.lit (.bool false)], args := [d1, d2, d3] }
  | _ => none }
def LabelNarrowsWrongFalsely : Prop := labelNarrowsRow.holds Try.pinned (OpenSpec.ofChange labelNarrowsWrong)

/- THE SECOND FORM. 'bulk': how many values and letters a reading holds, each counted each time it is reached (what is shared counts as often as it is met; a slice's spare places count too). A statement '..UptoSaid' is the law's where the arguments, and the package variables that the reading takes, are together of bulk at most 1048576: NARROWER than '..Said'. Prove '..Said' where nothing that the law and all that it calls make is longer than what came in: it says more and counts as full. Else prove '..UptoSaid'. A law counts once. -/
mutual
def uptoBulk {H : Type} : DataW H → Nat
  | .lit (.string bytes) => bytes.length + 1
  | .lit _ => 1
  | .nil => 1
  | .ptr d => uptoBulk d + 1
  | .slice elems spare => uptoBulkAll elems + uptoBulkAll spare + 1
  | .agg parts => uptoBulkAll parts + 1
  | .iface _ d => uptoBulk d + 1
  | .map entries => uptoBulkEntries entries + 1
  | .held _ => 1
def uptoBulkAll {H : Type} : List (DataW H) → Nat
  | [] => 0
  | d :: r => uptoBulk d + uptoBulkAll r
def uptoBulkEntries {H : Type} : List (Lit × DataW H) → Nat
  | [] => 0
  | x :: r => uptoBulkEntry x + uptoBulkEntries r
def uptoBulkEntry {H : Type} : Lit × DataW H → Nat
  | (.string bytes, d) => bytes.length + uptoBulk d + 1
  | (_, d) => uptoBulk d + 1
 end
def uptoSmall : (H : Type) → List (DataW H) → Bool := fun _ ds => decide (uptoBulkAll ds ≤ 1048576)
def OpenSpec.upto (s : _root_.Go.ChangeSpec) : _root_.Go.OpenSpec := { _root_.Go.OpenSpec.ofChange s with cond := some uptoSmall }

/-- 'orchestratorlaw03.LabelValid', WHERE WHAT IT READS IS OF BULK AT MOST 1048576: true; the input reads as it did. -/
def labelValidUptoRow : OpenClaim := { program := "ytadhmlfnfgpjjaa", sum := "46c34c09ceab5f447ad954cfd22248f5e7d55468b8f063232059da4f7466a710", func := "orchestrator/orchestratorlaw03.LabelValid", spec := "labelValid", inPlace := ["internal/bytealg.IndexByteString", "internal/bytealg.IndexString", "internal/abi.NoEscape", "internal/bytealg.MakeNoZero", "slices.overlaps[orchestrator/api.Label]"], unfollowed := true, recurses := true, named := ["internal/bytealg.MaxLen"], apart := false, narrowed := true }
def LabelValidUptoSaid : Prop := labelValidUptoRow.holds Try.pinned (OpenSpec.upto labelValidSpec)

/-- 'orchestratorlaw03.LabelLookup', WHERE WHAT IT READS IS OF BULK AT MOST 1048576: true; the input reads as it did. -/
def labelLookupUptoRow : OpenClaim := { program := "ytadhmlfnfgpjjaa", sum := "46c34c09ceab5f447ad954cfd22248f5e7d55468b8f063232059da4f7466a710", func := "orchestrator/orchestratorlaw03.LabelLookup", spec := "labelLookup", inPlace := ["internal/bytealg.IndexByteString", "internal/bytealg.IndexString", "internal/abi.NoEscape", "internal/bytealg.MakeNoZero", "slices.overlaps[orchestrator/api.Label]"], unfollowed := true, recurses := true, named := ["internal/bytealg.MaxLen"], apart := false, narrowed := true }
def LabelLookupUptoSaid : Prop := labelLookupUptoRow.holds Try.pinned (OpenSpec.upto labelLookupSpec)

/-- 'orchestratorlaw03.LabelMatches', WHERE WHAT IT READS IS OF BULK AT MOST 1048576: true; the input reads as it did. -/
def labelMatchesUptoRow : OpenClaim := { program := "ytadhmlfnfgpjjaa", sum := "46c34c09ceab5f447ad954cfd22248f5e7d55468b8f063232059da4f7466a710", func := "orchestrator/orchestratorlaw03.LabelMatches", spec := "labelMatches", inPlace := ["internal/bytealg.IndexByteString", "internal/bytealg.IndexString", "internal/abi.NoEscape", "internal/bytealg.MakeNoZero", "slices.overlaps[orchestrator/api.Label]"], unfollowed := true, recurses := true, named := ["internal/bytealg.MaxLen"], apart := false, narrowed := true }
def LabelMatchesUptoSaid : Prop := labelMatchesUptoRow.holds Try.pinned (OpenSpec.upto labelMatchesSpec)

/-- 'orchestratorlaw03.LabelParses', WHERE WHAT IT READS IS OF BULK AT MOST 1048576: true; the input reads as it did. -/
def labelParsesUptoRow : OpenClaim := { program := "ytadhmlfnfgpjjaa", sum := "46c34c09ceab5f447ad954cfd22248f5e7d55468b8f063232059da4f7466a710", func := "orchestrator/orchestratorlaw03.LabelParses", spec := "labelParses", inPlace := ["internal/bytealg.IndexByteString", "internal/bytealg.IndexString", "internal/abi.NoEscape", "internal/bytealg.MakeNoZero", "slices.overlaps[orchestrator/api.Label]"], unfollowed := true, recurses := true, named := ["internal/bytealg.MaxLen"], apart := false, narrowed := true }
def LabelParsesUptoSaid : Prop := labelParsesUptoRow.holds Try.pinned (OpenSpec.upto labelParsesSpec)

/-- 'orchestratorlaw03.LabelPrints', WHERE WHAT IT READS IS OF BULK AT MOST 1048576: true; the input reads as it did. -/
def labelPrintsUptoRow : OpenClaim := { program := "ytadhmlfnfgpjjaa", sum := "46c34c09ceab5f447ad954cfd22248f5e7d55468b8f063232059da4f7466a710", func := "orchestrator/orchestratorlaw03.LabelPrints", spec := "labelPrints", inPlace := ["internal/bytealg.IndexByteString", "internal/bytealg.IndexString", "internal/abi.NoEscape", "internal/bytealg.MakeNoZero", "slices.overlaps[orchestrator/api.Label]"], unfollowed := true, recurses := true, named := ["internal/bytealg.MaxLen"], apart := false, narrowed := true }
def LabelPrintsUptoSaid : Prop := labelPrintsUptoRow.holds Try.pinned (OpenSpec.upto labelPrintsSpec)

/-- 'orchestratorlaw03.LabelRoundTrip', WHERE WHAT IT READS IS OF BULK AT MOST 1048576: true; the input reads as it did. -/
def labelRoundTripUptoRow : OpenClaim := { program := "ytadhmlfnfgpjjaa", sum := "46c34c09ceab5f447ad954cfd22248f5e7d55468b8f063232059da4f7466a710", func := "orchestrator/orchestratorlaw03.LabelRoundTrip", spec := "labelRoundTrip", inPlace := ["internal/bytealg.IndexByteString", "internal/bytealg.IndexString", "internal/abi.NoEscape", "internal/bytealg.MakeNoZero", "slices.overlaps[orchestrator/api.Label]"], unfollowed := true, recurses := true, named := ["internal/bytealg.MaxLen"], apart := false, narrowed := true }
def LabelRoundTripUptoSaid : Prop := labelRoundTripUptoRow.holds Try.pinned (OpenSpec.upto labelRoundTripSpec)

/-- 'orchestratorlaw03.LabelEdits', WHERE WHAT IT READS IS OF BULK AT MOST 1048576: true; the input reads as it did. -/
def labelEditsUptoRow : OpenClaim := { program := "ytadhmlfnfgpjjaa", sum := "46c34c09ceab5f447ad954cfd22248f5e7d55468b8f063232059da4f7466a710", func := "orchestrator/orchestratorlaw03.LabelEdits", spec := "labelEdits", inPlace := ["internal/bytealg.IndexByteString", "internal/bytealg.IndexString", "internal/abi.NoEscape", "internal/bytealg.MakeNoZero", "slices.overlaps[orchestrator/api.Label]"], unfollowed := true, recurses := true, named := ["internal/bytealg.MaxLen"], apart := false, narrowed := true }
def LabelEditsUptoSaid : Prop := labelEditsUptoRow.holds Try.pinned (OpenSpec.upto labelEditsSpec)

/-- 'orchestratorlaw03.LabelNarrows', WHERE WHAT IT READS IS OF BULK AT MOST 1048576: true; the input reads as it did. -/
def labelNarrowsUptoRow : OpenClaim := { program := "ytadhmlfnfgpjjaa", sum := "46c34c09ceab5f447ad954cfd22248f5e7d55468b8f063232059da4f7466a710", func := "orchestrator/orchestratorlaw03.LabelNarrows", spec := "labelNarrows", inPlace := ["internal/bytealg.IndexByteString", "internal/bytealg.IndexString", "internal/abi.NoEscape", "internal/bytealg.MakeNoZero", "slices.overlaps[orchestrator/api.Label]"], unfollowed := true, recurses := true, named := ["internal/bytealg.MaxLen"], apart := false, narrowed := true }
def LabelNarrowsUptoSaid : Prop := labelNarrowsUptoRow.holds Try.pinned (OpenSpec.upto labelNarrowsSpec)

end Rows
end Go.Proofs.Ytadhmlfnfgpjjaa
