/-
  No cell of these rows narrows 'for every input' (looked for: loops, veiled, ifaces, maps, wideKeys, modest, calm, conditions, laid).
  DERIVED. THE GIVEN ROWS OF THIS SEAT. 4 by the template 'for every input the law returns true; each argument reads behind the call as it read before'; 0 by the template 'total and deterministic' (their statements: YtihhlgbcbmoblaaTotals.lean).
  GIVEN WITH THE SEED: the statements are not yours to turn. If you find one false, say at which input.
  Laid BY PROGRAM, IN A SANDBOX (cutbox-rows.mjs): the forced cells as the released guide's own fill.sh prints them over the translation 2886da42b379576d… (all of the seat's roots in one cut). By AI agents, Wed Nov 11 2026. No macro, syntax, notation, axiom, sorry.
-/
import Derived.Test.YtihhlgbcbmoblaaChecked
import GoSem.Claim
import GoSem.ClaimJoined
import GoSem.ClaimMapViews
import Derived.JoinedTies
import Derived.KernelRfl
namespace Go.Proofs.Ytihhlgbcbmoblaa
/- THE CELL 'sum', in the pinned program and in every row, IS THE sha256 OF THE DUMP (.gsa) THAT YtihhlgbcbmoblaaProg.lean LOADS. Nothing in Lean hashes anything: it is a label: what it is worth is what the hold of that sum in a sandbox is worth. -/
noncomputable def Try.pinned : Pinned := { name := "ytihhlgbcbmoblaa", sum := "2886da42b379576d666a853d026a395280bcfc095833eb9b777d048d32822ad5", checked := Try.checked }
namespace Rows
def none {H : Type} : Left H := { results := [], args := [] }

/-- 'orchestratorlaw54.NodelifeChecks': WHATEVER THE INPUT: true; the input reads as it did. -/
def nodelifeChecksSpec : ChangeSpec := { name := "nodelifeChecks", fn := fun _ => fun
  | [d1, d2, d3] => { results := [.lit (.bool true)], args := [d1, d2, d3] }
  | _ => none }
def nodelifeChecksRow : OpenClaim := { program := "ytihhlgbcbmoblaa", sum := "2886da42b379576d666a853d026a395280bcfc095833eb9b777d048d32822ad5", func := "orchestrator/orchestratorlaw54.NodelifeChecks", spec := "nodelifeChecks", unfollowed := true, recurses := true, apart := false }
def NodelifeChecksSaid : Prop := nodelifeChecksRow.holds Try.pinned (OpenSpec.ofChange nodelifeChecksSpec)

/-- ITS FALSE NEIGHBOUR: 'it returns false'. Refute it at one input. -/
def nodelifeChecksWrong : ChangeSpec := { name := "nodelifeChecks", fn := fun _ => fun
  | [d1, d2, d3] => { results := [.lit (.bool false)], args := [d1, d2, d3] }
  | _ => none }
def NodelifeChecksWrongFalsely : Prop := nodelifeChecksRow.holds Try.pinned (OpenSpec.ofChange nodelifeChecksWrong)

/-- 'orchestratorlaw54.NodelifeLeaves': WHATEVER THE INPUT: true; the input reads as it did. -/
def nodelifeLeavesSpec : ChangeSpec := { name := "nodelifeLeaves", fn := fun _ => fun
  | [d1, d2, d3] => { results := [.lit (.bool true)], args := [d1, d2, d3] }
  | _ => none }
def nodelifeLeavesRow : OpenClaim := { program := "ytihhlgbcbmoblaa", sum := "2886da42b379576d666a853d026a395280bcfc095833eb9b777d048d32822ad5", func := "orchestrator/orchestratorlaw54.NodelifeLeaves", spec := "nodelifeLeaves", unfollowed := true, recurses := true, apart := false }
def NodelifeLeavesSaid : Prop := nodelifeLeavesRow.holds Try.pinned (OpenSpec.ofChange nodelifeLeavesSpec)

/-- ITS FALSE NEIGHBOUR: 'it returns false'. Refute it at one input. -/
def nodelifeLeavesWrong : ChangeSpec := { name := "nodelifeLeaves", fn := fun _ => fun
  | [d1, d2, d3] => { results := [.lit (.bool false)], args := [d1, d2, d3] }
  | _ => none }
def NodelifeLeavesWrongFalsely : Prop := nodelifeLeavesRow.holds Try.pinned (OpenSpec.ofChange nodelifeLeavesWrong)

/-- 'orchestratorlaw54.NodelifeRecovers': WHATEVER THE INPUT: true; the input reads as it did. -/
def nodelifeRecoversSpec : ChangeSpec := { name := "nodelifeRecovers", fn := fun _ => fun
  | [d1, d2, d3, d4] => { results := [.lit (.bool true)], args := [d1, d2, d3, d4] }
  | _ => none }
def nodelifeRecoversRow : OpenClaim := { program := "ytihhlgbcbmoblaa", sum := "2886da42b379576d666a853d026a395280bcfc095833eb9b777d048d32822ad5", func := "orchestrator/orchestratorlaw54.NodelifeRecovers", spec := "nodelifeRecovers", unfollowed := true, recurses := true, apart := false }
def NodelifeRecoversSaid : Prop := nodelifeRecoversRow.holds Try.pinned (OpenSpec.ofChange nodelifeRecoversSpec)

/-- ITS FALSE NEIGHBOUR: 'it returns false'. Refute it at one input. -/
def nodelifeRecoversWrong : ChangeSpec := { name := "nodelifeRecovers", fn := fun _ => fun
  | [d1, d2, d3, d4] => { results := [.lit (.bool false)], args := [d1, d2, d3, d4] }
  | _ => none }
def NodelifeRecoversWrongFalsely : Prop := nodelifeRecoversRow.holds Try.pinned (OpenSpec.ofChange nodelifeRecoversWrong)

/-- 'orchestratorlaw54.NodelifeStays': WHATEVER THE INPUT: true; the input reads as it did. -/
def nodelifeStaysSpec : ChangeSpec := { name := "nodelifeStays", fn := fun _ => fun
  | [d1, d2, d3, d4] => { results := [.lit (.bool true)], args := [d1, d2, d3, d4] }
  | _ => none }
def nodelifeStaysRow : OpenClaim := { program := "ytihhlgbcbmoblaa", sum := "2886da42b379576d666a853d026a395280bcfc095833eb9b777d048d32822ad5", func := "orchestrator/orchestratorlaw54.NodelifeStays", spec := "nodelifeStays", unfollowed := true, recurses := true, apart := false }
def NodelifeStaysSaid : Prop := nodelifeStaysRow.holds Try.pinned (OpenSpec.ofChange nodelifeStaysSpec)

/-- ITS FALSE NEIGHBOUR: 'it returns false'. Refute it at one input. -/
def nodelifeStaysWrong : ChangeSpec := { name := "nodelifeStays", fn := fun _ => fun
  | [d1, d2, d3, d4] => { results := [.lit (.bool false)], args := [d1, d2, d3, d4] }
  | _ => none }
def NodelifeStaysWrongFalsely : Prop := nodelifeStaysRow.holds Try.pinned (OpenSpec.ofChange nodelifeStaysWrong)

/- THE SECOND FORM. 'bulk': how many values and letters a reading holds, each counted each time it is reached (what is shared counts as often as it is met; a slice's spare places count too). A statement '..UptoSaid' is the law's where the arguments, and the package variables that the reading takes, are together of bulk at most 1048576: NARROWER than '..Said'. Prove '..Said' where nothing that the law and all that it calls make is longer than what came in: it says more and counts as full. Else prove '..UptoSaid'. A law counts once. -/
mutual
def uptoBulk {H : Type} : DataW H → Nat
  | .lit (.string bytes) => bytes.length + 1
  | .lit _ => 1
  | .nil => 1
  | .ptr d => uptoBulk d + 1
  | .slice elems spare => uptoBulkAll elems + uptoBulkAll spare + 1
  | .agg parts => uptoBulkAll parts + 1
  | .iface _ d => uptoBulk d + 1
  | .map entries => uptoBulkEntries entries + 1
  | .held _ => 1
def uptoBulkAll {H : Type} : List (DataW H) → Nat
  | [] => 0
  | d :: r => uptoBulk d + uptoBulkAll r
def uptoBulkEntries {H : Type} : List (Lit × DataW H) → Nat
  | [] => 0
  | x :: r => uptoBulkEntry x + uptoBulkEntries r
def uptoBulkEntry {H : Type} : Lit × DataW H → Nat
  | (.string bytes, d) => bytes.length + uptoBulk d + 1
  | (_, d) => uptoBulk d + 1
 end
def uptoSmall : (H : Type) → List (DataW H) → Bool := fun _ ds => decide (uptoBulkAll ds ≤ 1048576)
def OpenSpec.upto (s : _root_.Go.ChangeSpec) : _root_.Go.OpenSpec := { _root_.Go.OpenSpec.ofChange s with cond := some uptoSmall }

/-- 'orchestratorlaw54.NodelifeChecks', WHERE WHAT IT READS IS OF BULK AT MOST 1048576: true; the input reads as it did. -/
def nodelifeChecksUptoRow : OpenClaim := { program := "ytihhlgbcbmoblaa", sum := "2886da42b379576d666a853d026a395280bcfc095833eb9b777d048d32822ad5", func := "orchestrator/orchestratorlaw54.NodelifeChecks", spec := "nodelifeChecks", unfollowed := true, recurses := true, apart := false, narrowed := true }
def NodelifeChecksUptoSaid : Prop := nodelifeChecksUptoRow.holds Try.pinned (OpenSpec.upto nodelifeChecksSpec)

/-- 'orchestratorlaw54.NodelifeLeaves', WHERE WHAT IT READS IS OF BULK AT MOST 1048576: true; the input reads as it did. -/
def nodelifeLeavesUptoRow : OpenClaim := { program := "ytihhlgbcbmoblaa", sum := "2886da42b379576d666a853d026a395280bcfc095833eb9b777d048d32822ad5", func := "orchestrator/orchestratorlaw54.NodelifeLeaves", spec := "nodelifeLeaves", unfollowed := true, recurses := true, apart := false, narrowed := true }
def NodelifeLeavesUptoSaid : Prop := nodelifeLeavesUptoRow.holds Try.pinned (OpenSpec.upto nodelifeLeavesSpec)

/-- 'orchestratorlaw54.NodelifeRecovers', WHERE WHAT IT READS IS OF BULK AT MOST 1048576: true; the input reads as it did. -/
def nodelifeRecoversUptoRow : OpenClaim := { program := "ytihhlgbcbmoblaa", sum := "2886da42b379576d666a853d026a395280bcfc095833eb9b777d048d32822ad5", func := "orchestrator/orchestratorlaw54.NodelifeRecovers", spec := "nodelifeRecovers", unfollowed := true, recurses := true, apart := false, narrowed := true }
def NodelifeRecoversUptoSaid : Prop := nodelifeRecoversUptoRow.holds Try.pinned (OpenSpec.upto nodelifeRecoversSpec)

/-- 'orchestratorlaw54.NodelifeStays', WHERE WHAT IT READS IS OF BULK AT MOST 1048576: true; the input reads as it did. -/
def nodelifeStaysUptoRow : OpenClaim := { program := "ytihhlgbcbmoblaa", sum := "2886da42b379576d666a853d026a395280bcfc095833eb9b777d048d32822ad5", func := "orchestrator/orchestratorlaw54.NodelifeStays", spec := "nodelifeStays", unfollowed := true, recurses := true, apart := false, narrowed := true }
def NodelifeStaysUptoSaid : Prop := nodelifeStaysUptoRow.holds Try.pinned (OpenSpec.upto nodelifeStaysSpec)

end Rows
end Go.Proofs.Ytihhlgbcbmoblaa
