/-
  No cell of these rows narrows 'for every input' (looked for: loops, veiled, ifaces, maps, wideKeys, modest, calm, conditions, laid).
  DERIVED. THE GIVEN ROWS OF THIS SEAT. 4 by the template 'for every input the law returns true; each argument reads behind the call as it read before'; 0 by the template 'total and deterministic' (their statements: YtfkkccgopmcnaaaTotals.lean).
  GIVEN WITH THE SEED: the statements are not yours to turn. If you find one false, say at which input.
  Laid BY PROGRAM, IN A SANDBOX (cutbox-rows.mjs): the forced cells as the released guide's own fill.sh prints them over the translation 7d87e12770a54ad1… (all of the seat's roots in one cut). By AI agents, Wed Nov 11 2026. No macro, syntax, notation, axiom, sorry.
-/
import Derived.Test.YtfkkccgopmcnaaaChecked
import GoSem.Claim
import GoSem.ClaimJoined
import GoSem.ClaimMapViews
import Derived.JoinedTies
import Derived.KernelRfl
namespace Go.Proofs.Ytfkkccgopmcnaaa
/- THE CELL 'sum', in the pinned program and in every row, IS THE sha256 OF THE DUMP (.gsa) THAT YtfkkccgopmcnaaaProg.lean LOADS. Nothing in Lean hashes anything: it is a label: what it is worth is what the hold of that sum in a sandbox is worth. -/
noncomputable def Try.pinned : Pinned := { name := "ytfkkccgopmcnaaa", sum := "7d87e12770a54ad1aa7427d415bfdc08f4ccb04aa5b6229010ab31e132196153", checked := Try.checked }
namespace Rows
def none {H : Type} : Left H := { results := [], args := [] }

/-- 'orchestratorlaw55.EndpointsSays': WHATEVER THE INPUT: true; the input reads as it did. -/
def endpointsSaysSpec : ChangeSpec := { name := "endpointsSays", fn := fun _ => fun
  | [d1, d2] => { results := [.lit (.bool true)], args := [d1, d2] }
  | _ => none }
def endpointsSaysRow : OpenClaim := { program := "ytfkkccgopmcnaaa", sum := "7d87e12770a54ad1aa7427d415bfdc08f4ccb04aa5b6229010ab31e132196153", func := "orchestrator/orchestratorlaw55.EndpointsSays", spec := "endpointsSays", inPlace := ["internal/bytealg.abigen_runtime_cmpstring"], unfollowed := true, recurses := true, apart := false }
def EndpointsSaysSaid : Prop := endpointsSaysRow.holds Try.pinned (OpenSpec.ofChange endpointsSaysSpec)

/-- ITS FALSE NEIGHBOUR: 'it returns false'. Refute it at one input. -/
def endpointsSaysWrong : ChangeSpec := { name := "endpointsSays", fn := fun _ => fun
  | [d1, d2] => { results := [.lit (.bool false)], args := [d1, d2] }
  | _ => none }
def EndpointsSaysWrongFalsely : Prop := endpointsSaysRow.holds Try.pinned (OpenSpec.ofChange endpointsSaysWrong)

/-- 'orchestratorlaw55.EndpointsDiffs': WHATEVER THE INPUT: true; the input reads as it did. -/
def endpointsDiffsSpec : ChangeSpec := { name := "endpointsDiffs", fn := fun _ => fun
  | [d1, d2] => { results := [.lit (.bool true)], args := [d1, d2] }
  | _ => none }
def endpointsDiffsRow : OpenClaim := { program := "ytfkkccgopmcnaaa", sum := "7d87e12770a54ad1aa7427d415bfdc08f4ccb04aa5b6229010ab31e132196153", func := "orchestrator/orchestratorlaw55.EndpointsDiffs", spec := "endpointsDiffs", inPlace := ["internal/bytealg.abigen_runtime_cmpstring"], unfollowed := true, recurses := true, apart := false }
def EndpointsDiffsSaid : Prop := endpointsDiffsRow.holds Try.pinned (OpenSpec.ofChange endpointsDiffsSpec)

/-- ITS FALSE NEIGHBOUR: 'it returns false'. Refute it at one input. -/
def endpointsDiffsWrong : ChangeSpec := { name := "endpointsDiffs", fn := fun _ => fun
  | [d1, d2] => { results := [.lit (.bool false)], args := [d1, d2] }
  | _ => none }
def EndpointsDiffsWrongFalsely : Prop := endpointsDiffsRow.holds Try.pinned (OpenSpec.ofChange endpointsDiffsWrong)

/-- 'orchestratorlaw55.EndpointsReady': WHATEVER THE INPUT: true; the input reads as it did. -/
def endpointsReadySpec : ChangeSpec := { name := "endpointsReady", fn := fun _ => fun
  | [d1, d2] => { results := [.lit (.bool true)], args := [d1, d2] }
  | _ => none }
def endpointsReadyRow : OpenClaim := { program := "ytfkkccgopmcnaaa", sum := "7d87e12770a54ad1aa7427d415bfdc08f4ccb04aa5b6229010ab31e132196153", func := "orchestrator/orchestratorlaw55.EndpointsReady", spec := "endpointsReady", inPlace := ["internal/bytealg.abigen_runtime_cmpstring"], unfollowed := true, recurses := true, apart := false }
def EndpointsReadySaid : Prop := endpointsReadyRow.holds Try.pinned (OpenSpec.ofChange endpointsReadySpec)

/-- ITS FALSE NEIGHBOUR: 'it returns false'. Refute it at one input. -/
def endpointsReadyWrong : ChangeSpec := { name := "endpointsReady", fn := fun _ => fun
  | [d1, d2] => { results := [.lit (.bool false)], args := [d1, d2] }
  | _ => none }
def EndpointsReadyWrongFalsely : Prop := endpointsReadyRow.holds Try.pinned (OpenSpec.ofChange endpointsReadyWrong)

/-- 'orchestratorlaw55.EndpointsOrder': WHATEVER THE INPUT: true; the input reads as it did. -/
def endpointsOrderSpec : ChangeSpec := { name := "endpointsOrder", fn := fun _ => fun
  | [d1, d2, d3] => { results := [.lit (.bool true)], args := [d1, d2, d3] }
  | _ => none }
def endpointsOrderRow : OpenClaim := { program := "ytfkkccgopmcnaaa", sum := "7d87e12770a54ad1aa7427d415bfdc08f4ccb04aa5b6229010ab31e132196153", func := "orchestrator/orchestratorlaw55.EndpointsOrder", spec := "endpointsOrder", inPlace := ["internal/bytealg.abigen_runtime_cmpstring"], unfollowed := true, recurses := true, apart := false }
def EndpointsOrderSaid : Prop := endpointsOrderRow.holds Try.pinned (OpenSpec.ofChange endpointsOrderSpec)

/-- ITS FALSE NEIGHBOUR: 'it returns false'. Refute it at one input. -/
def endpointsOrderWrong : ChangeSpec := { name := "endpointsOrder", fn := fun _ => fun
  | [d1, d2, d3] => { results := [.lit (.bool false)], args := [d1, d2, d3] }
  | _ => none }
def EndpointsOrderWrongFalsely : Prop := endpointsOrderRow.holds Try.pinned (OpenSpec.ofChange endpointsOrderWrong)

/- THE SECOND FORM. 'bulk': how many values and letters a reading holds, each counted each time it is reached (what is shared counts as often as it is met; a slice's spare places count too). A statement '..UptoSaid' is the law's where the arguments, and the package variables that the reading takes, are together of bulk at most 1048576: NARROWER than '..Said'. Prove '..Said' where nothing that the law and all that it calls make is longer than what came in: it says more and counts as full. Else prove '..UptoSaid'. A law counts once. -/
mutual
def uptoBulk {H : Type} : DataW H → Nat
  | .lit (.string bytes) => bytes.length + 1
  | .lit _ => 1
  | .nil => 1
  | .ptr d => uptoBulk d + 1
  | .slice elems spare => uptoBulkAll elems + uptoBulkAll spare + 1
  | .agg parts => uptoBulkAll parts + 1
  | .iface _ d => uptoBulk d + 1
  | .map entries => uptoBulkEntries entries + 1
  | .held _ => 1
def uptoBulkAll {H : Type} : List (DataW H) → Nat
  | [] => 0
  | d :: r => uptoBulk d + uptoBulkAll r
def uptoBulkEntries {H : Type} : List (Lit × DataW H) → Nat
  | [] => 0
  | x :: r => uptoBulkEntry x + uptoBulkEntries r
def uptoBulkEntry {H : Type} : Lit × DataW H → Nat
  | (.string bytes, d) => bytes.length + uptoBulk d + 1
  | (_, d) => uptoBulk d + 1
 end
def uptoSmall : (H : Type) → List (DataW H) → Bool := fun _ ds => decide (uptoBulkAll ds ≤ 1048576)
def OpenSpec.upto (s : _root_.Go.ChangeSpec) : _root_.Go.OpenSpec := { _root_.Go.OpenSpec.ofChange s with cond := some uptoSmall }

/-- 'orchestratorlaw55.EndpointsSays', WHERE WHAT IT READS IS OF BULK AT MOST 1048576: true; the input reads as it did. -/
def endpointsSaysUptoRow : OpenClaim := { program := "ytfkkccgopmcnaaa", sum := "7d87e12770a54ad1aa7427d415bfdc08f4ccb04aa5b6229010ab31e132196153", func := "orchestrator/orchestratorlaw55.EndpointsSays", spec := "endpointsSays", inPlace := ["internal/bytealg.abigen_runtime_cmpstring"], unfollowed := true, recurses := true, apart := false, narrowed := true }
def EndpointsSaysUptoSaid : Prop := endpointsSaysUptoRow.holds Try.pinned (OpenSpec.upto endpointsSaysSpec)

/-- 'orchestratorlaw55.EndpointsDiffs', WHERE WHAT IT READS IS OF BULK AT MOST 1048576: true; the input reads as it did. -/
def endpointsDiffsUptoRow : OpenClaim := { program := "ytfkkccgopmcnaaa", sum := "7d87e12770a54ad1aa7427d415bfdc08f4ccb04aa5b6229010ab31e132196153", func := "orchestrator/orchestratorlaw55.EndpointsDiffs", spec := "endpointsDiffs", inPlace := ["internal/bytealg.abigen_runtime_cmpstring"], unfollowed := true, recurses := true, apart := false, narrowed := true }
def EndpointsDiffsUptoSaid : Prop := endpointsDiffsUptoRow.holds Try.pinned (OpenSpec.upto endpointsDiffsSpec)

/-- 'orchestratorlaw55.EndpointsReady', WHERE WHAT IT READS IS OF BULK AT MOST 1048576: true; the input reads as it did. -/
def endpointsReadyUptoRow : OpenClaim := { program := "ytfkkccgopmcnaaa", sum := "7d87e12770a54ad1aa7427d415bfdc08f4ccb04aa5b6229010ab31e132196153", func := "orchestrator/orchestratorlaw55.EndpointsReady", spec := "endpointsReady", inPlace := ["internal/bytealg.abigen_runtime_cmpstring"], unfollowed := true, recurses := true, apart := false, narrowed := true }
def EndpointsReadyUptoSaid : Prop := endpointsReadyUptoRow.holds Try.pinned (OpenSpec.upto endpointsReadySpec)

/-- 'orchestratorlaw55.EndpointsOrder', WHERE WHAT IT READS IS OF BULK AT MOST 1048576: true; the input reads as it did. -/
def endpointsOrderUptoRow : OpenClaim := { program := "ytfkkccgopmcnaaa", sum := "7d87e12770a54ad1aa7427d415bfdc08f4ccb04aa5b6229010ab31e132196153", func := "orchestrator/orchestratorlaw55.EndpointsOrder", spec := "endpointsOrder", inPlace := ["internal/bytealg.abigen_runtime_cmpstring"], unfollowed := true, recurses := true, apart := false, narrowed := true }
def EndpointsOrderUptoSaid : Prop := endpointsOrderUptoRow.holds Try.pinned (OpenSpec.upto endpointsOrderSpec)

end Rows
end Go.Proofs.Ytfkkccgopmcnaaa
