/-
  No cell of these rows narrows 'for every input' (looked for: loops, veiled, ifaces, maps, wideKeys, modest, calm, conditions, laid).
  DERIVED. THE GIVEN ROWS OF THIS SEAT. 4 by the template 'for every input the law returns true; each argument reads behind the call as it read before'; 0 by the template 'total and deterministic' (their statements: YtdpbdbclninjaaaTotals.lean).
  GIVEN WITH THE SEED: the statements are not yours to turn. If you find one false, say at which input.
  Laid BY PROGRAM, IN A SANDBOX (cutbox-rows.mjs): the forced cells as the released guide's own fill.sh prints them over the translation 48254ef530814139… (all of the seat's roots in one cut). By AI agents, Wed Nov 11 2026. No macro, syntax, notation, axiom, sorry.
-/
import Derived.Test.YtdpbdbclninjaaaChecked
import GoSem.Claim
import GoSem.ClaimJoined
import GoSem.ClaimMapViews
import Derived.JoinedTies
import Derived.KernelRfl
namespace Go.Proofs.Ytdpbdbclninjaaa
/- THE CELL 'sum', in the pinned program and in every row, IS THE sha256 OF THE DUMP (.gsa) THAT YtdpbdbclninjaaaProg.lean LOADS. Nothing in Lean hashes anything: it is a label: what it is worth is what the hold of that sum in a sandbox is worth. -/
noncomputable def Try.pinned : Pinned := { name := "ytdpbdbclninjaaa", sum := "48254ef530814139869c3da1eefdbb6ed102869c6cc485338fc01c88283e5a1c", checked := Try.checked }
namespace Rows
def none {H : Type} : Left H := { results := [], args := [] }

/-- 'orchestratorlaw42.SchedqueuePlays': WHATEVER THE INPUT: true; the input reads as it did. -/
def schedqueuePlaysSpec : ChangeSpec := { name := "schedqueuePlays", fn := fun _ => fun
  | [d] => { results := [.lit (.bool true)], args := [d] }
  | _ => none }
def schedqueuePlaysRow : OpenClaim := { program := "ytdpbdbclninjaaa", sum := "48254ef530814139869c3da1eefdbb6ed102869c6cc485338fc01c88283e5a1c", func := "orchestrator/orchestratorlaw42.SchedqueuePlays", spec := "schedqueuePlays", inPlace := ["slices.overlaps[orchestrator/api.WorkItem]", "internal/bytealg.abigen_runtime_cmpstring"], unfollowed := true, recurses := true, apart := false }
def SchedqueuePlaysSaid : Prop := schedqueuePlaysRow.holds Try.pinned (OpenSpec.ofChange schedqueuePlaysSpec)

/-- ITS FALSE NEIGHBOUR: 'it returns false'. Refute it at one input. -/
def schedqueuePlaysWrong : ChangeSpec := { name := "schedqueuePlays", fn := fun _ => fun
  | [d] => { results := [.lit (.bool false)], args := [d] }
  | _ => none }
def SchedqueuePlaysWrongFalsely : Prop := schedqueuePlaysRow.holds Try.pinned (OpenSpec.ofChange schedqueuePlaysWrong)

/-- 'orchestratorlaw42.SchedqueueOnce': WHATEVER THE INPUT: true; the input reads as it did. -/
def schedqueueOnceSpec : ChangeSpec := { name := "schedqueueOnce", fn := fun _ => fun
  | [d1, d2] => { results := [.lit (.bool true)], args := [d1, d2] }
  | _ => none }
def schedqueueOnceRow : OpenClaim := { program := "ytdpbdbclninjaaa", sum := "48254ef530814139869c3da1eefdbb6ed102869c6cc485338fc01c88283e5a1c", func := "orchestrator/orchestratorlaw42.SchedqueueOnce", spec := "schedqueueOnce", inPlace := ["slices.overlaps[orchestrator/api.WorkItem]", "internal/bytealg.abigen_runtime_cmpstring"], unfollowed := true, recurses := true, apart := false }
def SchedqueueOnceSaid : Prop := schedqueueOnceRow.holds Try.pinned (OpenSpec.ofChange schedqueueOnceSpec)

/-- ITS FALSE NEIGHBOUR: 'it returns false'. Refute it at one input. -/
def schedqueueOnceWrong : ChangeSpec := { name := "schedqueueOnce", fn := fun _ => fun
  | [d1, d2] => { results := [.lit (.bool false)], args := [d1, d2] }
  | _ => none }
def SchedqueueOnceWrongFalsely : Prop := schedqueueOnceRow.holds Try.pinned (OpenSpec.ofChange schedqueueOnceWrong)

/-- 'orchestratorlaw42.SchedqueueFair': WHATEVER THE INPUT: true; the input reads as it did. -/
def schedqueueFairSpec : ChangeSpec := { name := "schedqueueFair", fn := fun _ => fun
  | [d] => { results := [.lit (.bool true)], args := [d] }
  | _ => none }
def schedqueueFairRow : OpenClaim := { program := "ytdpbdbclninjaaa", sum := "48254ef530814139869c3da1eefdbb6ed102869c6cc485338fc01c88283e5a1c", func := "orchestrator/orchestratorlaw42.SchedqueueFair", spec := "schedqueueFair", inPlace := ["slices.overlaps[orchestrator/api.WorkItem]", "internal/bytealg.abigen_runtime_cmpstring"], unfollowed := true, recurses := true, apart := false }
def SchedqueueFairSaid : Prop := schedqueueFairRow.holds Try.pinned (OpenSpec.ofChange schedqueueFairSpec)

/-- ITS FALSE NEIGHBOUR: 'it returns false'. Refute it at one input. -/
def schedqueueFairWrong : ChangeSpec := { name := "schedqueueFair", fn := fun _ => fun
  | [d] => { results := [.lit (.bool false)], args := [d] }
  | _ => none }
def SchedqueueFairWrongFalsely : Prop := schedqueueFairRow.holds Try.pinned (OpenSpec.ofChange schedqueueFairWrong)

/-- 'orchestratorlaw42.SchedqueueWaits': WHATEVER THE INPUT: true; the input reads as it did. -/
def schedqueueWaitsSpec : ChangeSpec := { name := "schedqueueWaits", fn := fun _ => fun
  | [d1, d2, d3, d4] => { results := [.lit (.bool true)], args := [d1, d2, d3, d4] }
  | _ => none }
def schedqueueWaitsRow : OpenClaim := { program := "ytdpbdbclninjaaa", sum := "48254ef530814139869c3da1eefdbb6ed102869c6cc485338fc01c88283e5a1c", func := "orchestrator/orchestratorlaw42.SchedqueueWaits", spec := "schedqueueWaits", inPlace := ["slices.overlaps[orchestrator/api.WorkItem]", "internal/bytealg.abigen_runtime_cmpstring"], unfollowed := true, recurses := true, apart := false }
def SchedqueueWaitsSaid : Prop := schedqueueWaitsRow.holds Try.pinned (OpenSpec.ofChange schedqueueWaitsSpec)

/-- ITS FALSE NEIGHBOUR: 'it returns false'. Refute it at one input. -/
def schedqueueWaitsWrong : ChangeSpec := { name := "schedqueueWaits", fn := fun _ => fun
  | [d1, d2, d3, d4] => { results := [.lit (.bool false)], args := [d1, d2, d3, d4] }
  | _ => none }
def SchedqueueWaitsWrongFalsely : Prop := schedqueueWaitsRow.holds Try.pinned (OpenSpec.ofChange schedqueueWaitsWrong)

/- THE SECOND FORM. 'bulk': how many values and letters a reading holds, each counted each time it is reached (what is shared counts as often as it is met; a slice's spare places count too). A statement '..UptoSaid' is the law's where the arguments, and the package variables that the reading takes, are together of bulk at most 1048576: NARROWER than '..Said'. Prove '..Said' where nothing that the law and all that it calls make is longer than what came in: it says more and counts as full. Else prove '..UptoSaid'. A law counts once. -/
mutual
def uptoBulk {H : Type} : DataW H → Nat
  | .lit (.string bytes) => bytes.length + 1
  | .lit _ => 1
  | .nil => 1
  | .ptr d => uptoBulk d + 1
  | .slice elems spare => uptoBulkAll elems + uptoBulkAll spare + 1
  | .agg parts => uptoBulkAll parts + 1
  | .iface _ d => uptoBulk d + 1
  | .map entries => uptoBulkEntries entries + 1
  | .held _ => 1
def uptoBulkAll {H : Type} : List (DataW H) → Nat
  | [] => 0
  | d :: r => uptoBulk d + uptoBulkAll r
def uptoBulkEntries {H : Type} : List (Lit × DataW H) → Nat
  | [] => 0
  | x :: r => uptoBulkEntry x + uptoBulkEntries r
def uptoBulkEntry {H : Type} : Lit × DataW H → Nat
  | (.string bytes, d) => bytes.length + uptoBulk d + 1
  | (_, d) => uptoBulk d + 1
 end
def uptoSmall : (H : Type) → List (DataW H) → Bool := fun _ ds => decide (uptoBulkAll ds ≤ 1048576)
def OpenSpec.upto (s : _root_.Go.ChangeSpec) : _root_.Go.OpenSpec := { _root_.Go.OpenSpec.ofChange s with cond := some uptoSmall }

/-- 'orchestratorlaw42.SchedqueuePlays', WHERE WHAT IT READS IS OF BULK AT MOST 1048576: true; the input reads as it did. -/
def schedqueuePlaysUptoRow : OpenClaim := { program := "ytdpbdbclninjaaa", sum := "48254ef530814139869c3da1eefdbb6ed102869c6cc485338fc01c88283e5a1c", func := "orchestrator/orchestratorlaw42.SchedqueuePlays", spec := "schedqueuePlays", inPlace := ["slices.overlaps[orchestrator/api.WorkItem]", "internal/bytealg.abigen_runtime_cmpstring"], unfollowed := true, recurses := true, apart := false, narrowed := true }
def SchedqueuePlaysUptoSaid : Prop := schedqueuePlaysUptoRow.holds Try.pinned (OpenSpec.upto schedqueuePlaysSpec)

/-- 'orchestratorlaw42.SchedqueueOnce', WHERE WHAT IT READS IS OF BULK AT MOST 1048576: true; the input reads as it did. -/
def schedqueueOnceUptoRow : OpenClaim := { program := "ytdpbdbclninjaaa", sum := "48254ef530814139869c3da1eefdbb6ed102869c6cc485338fc01c88283e5a1c", func := "orchestrator/orchestratorlaw42.SchedqueueOnce", spec := "schedqueueOnce", inPlace := ["slices.overlaps[orchestrator/api.WorkItem]", "internal/bytealg.abigen_runtime_cmpstring"], unfollowed := true, recurses := true, apart := false, narrowed := true }
def SchedqueueOnceUptoSaid : Prop := schedqueueOnceUptoRow.holds Try.pinned (OpenSpec.upto schedqueueOnceSpec)

/-- 'orchestratorlaw42.SchedqueueFair', WHERE WHAT IT READS IS OF BULK AT MOST 1048576: true; the input reads as it did. -/
def schedqueueFairUptoRow : OpenClaim := { program := "ytdpbdbclninjaaa", sum := "48254ef530814139869c3da1eefdbb6ed102869c6cc485338fc01c88283e5a1c", func := "orchestrator/orchestratorlaw42.SchedqueueFair", spec := "schedqueueFair", inPlace := ["slices.overlaps[orchestrator/api.WorkItem]", "internal/bytealg.abigen_runtime_cmpstring"], unfollowed := true, recurses := true, apart := false, narrowed := true }
def SchedqueueFairUptoSaid : Prop := schedqueueFairUptoRow.holds Try.pinned (OpenSpec.upto schedqueueFairSpec)

/-- 'orchestratorlaw42.SchedqueueWaits', WHERE WHAT IT READS IS OF BULK AT MOST 1048576: true; the input reads as it did. -/
def schedqueueWaitsUptoRow : OpenClaim := { program := "ytdpbdbclninjaaa", sum := "48254ef530814139869c3da1eefdbb6ed102869c6cc485338fc01c88283e5a1c", func := "orchestrator/orchestratorlaw42.SchedqueueWaits", spec := "schedqueueWaits", inPlace := ["slices.overlaps[orchestrator/api.WorkItem]", "internal/bytealg.abigen_runtime_cmpstring"], unfollowed := true, recurses := true, apart := false, narrowed := true }
def SchedqueueWaitsUptoSaid : Prop := schedqueueWaitsUptoRow.holds Try.pinned (OpenSpec.upto schedqueueWaitsSpec)

end Rows
end Go.Proofs.Ytdpbdbclninjaaa
