/-
  NARROWER THAN 'FOR EVERY INPUT', by the rows' own cells (each row's printed sentence says how): StoreStale: loops · StoreValid: loops · StoreSays: loops.
  DERIVED. THE GIVEN ROWS OF THIS SEAT. 3 by the template 'for every input the law returns true; each argument reads behind the call as it read before'; 0 by the template 'total and deterministic' (their statements: YtbopaemngpbdgaaGreatTotals.lean).
  GIVEN WITH THE SEED: the statements are not yours to turn. If you find one false, say at which input.
  Laid BY PROGRAM, IN A SANDBOX (cutbox-rows.mjs): the forced cells as the released guide's own fill.sh prints them over the translation b62a829acad08acf… (all of the seat's roots in one cut). By AI agents, Wed Nov 11 2026. No macro, syntax, notation, axiom, sorry.
-/
import Derived.Test.YtbopaemngpbdgaaGreatChecked
import GoSem.Claim
import GoSem.ClaimJoined
import GoSem.ClaimMapViews
import Derived.JoinedTies
import Derived.KernelRfl
namespace Go.Proofs.YtbopaemngpbdgaaGreat
/- THE CELL 'sum', in the pinned program and in every row, IS THE sha256 OF THE DUMP (.gsa) THAT YtbopaemngpbdgaaGreatProg.lean LOADS. Nothing in Lean hashes anything: it is a label: what it is worth is what the hold of that sum in a sandbox is worth. -/
noncomputable def Tryz.pinned : Pinned := { name := "ytbopaemngpbdgaagreat", sum := "b62a829acad08acf488c173c473e9b2b8a4a23474eaaa7a5ffcd071a9522298a", checked := Tryz.checked }
namespace Rows
def none {H : Type} : Left H := { results := [], args := [] }

/-- 'orchestratorlaw14.StoreStale': WHATEVER THE INPUT: true; the input reads as it did. -/
def storeStaleSpec : ChangeSpec := { name := "storeStale", fn := fun _ => fun
  | [d1, d2, d3] => { results := [.lit (.bool true)], args := [d1, d2, d3] }
  | _ => none }
def storeStaleRow : OpenClaim := { program := "ytbopaemngpbdgaagreat", sum := "b62a829acad08acf488c173c473e9b2b8a4a23474eaaa7a5ffcd071a9522298a", func := "orchestrator/orchestratorlaw14.StoreStale", spec := "storeStale", inPlace := ["internal/bytealg.abigen_runtime_cmpstring", "slices.overlaps[orchestrator/api.Object]"], unfollowed := true, recurses := true, loops := true, apart := false }
def StoreStaleSaid : Prop := storeStaleRow.holds Tryz.pinned (OpenSpec.ofChange storeStaleSpec)

/-- ITS FALSE NEIGHBOUR: 'it returns false'. Refute it at one input. -/
def storeStaleWrong : ChangeSpec := { name := "storeStale", fn := fun _ => fun
  | [d1, d2, d3] => { results := [.lit (.bool false)], args := [d1, d2, d3] }
  | _ => none }
def StoreStaleWrongFalsely : Prop := storeStaleRow.holds Tryz.pinned (OpenSpec.ofChange storeStaleWrong)

/-- 'orchestratorlaw14.StoreValid': WHATEVER THE INPUT: true; the input reads as it did. -/
def storeValidSpec : ChangeSpec := { name := "storeValid", fn := fun _ => fun
  | [d] => { results := [.lit (.bool true)], args := [d] }
  | _ => none }
def storeValidRow : OpenClaim := { program := "ytbopaemngpbdgaagreat", sum := "b62a829acad08acf488c173c473e9b2b8a4a23474eaaa7a5ffcd071a9522298a", func := "orchestrator/orchestratorlaw14.StoreValid", spec := "storeValid", inPlace := ["internal/bytealg.abigen_runtime_cmpstring", "slices.overlaps[orchestrator/api.Object]"], unfollowed := true, recurses := true, loops := true, apart := false }
def StoreValidSaid : Prop := storeValidRow.holds Tryz.pinned (OpenSpec.ofChange storeValidSpec)

/-- ITS FALSE NEIGHBOUR: 'it returns false'. Refute it at one input. -/
def storeValidWrong : ChangeSpec := { name := "storeValid", fn := fun _ => fun
  | [d] => { results := [.lit (.bool false)], args := [d] }
  | _ => none }
def StoreValidWrongFalsely : Prop := storeValidRow.holds Tryz.pinned (OpenSpec.ofChange storeValidWrong)

/-- 'orchestratorlaw14.StoreSays': WHATEVER THE INPUT: true; the input reads as it did. -/
def storeSaysSpec : ChangeSpec := { name := "storeSays", fn := fun _ => fun
  | [d1, d2, d3] => { results := [.lit (.bool true)], args := [d1, d2, d3] }
  | _ => none }
def storeSaysRow : OpenClaim := { program := "ytbopaemngpbdgaagreat", sum := "b62a829acad08acf488c173c473e9b2b8a4a23474eaaa7a5ffcd071a9522298a", func := "orchestrator/orchestratorlaw14.StoreSays", spec := "storeSays", inPlace := ["internal/bytealg.abigen_runtime_cmpstring", "slices.overlaps[orchestrator/api.Object]"], unfollowed := true, recurses := true, loops := true, apart := false }
def StoreSaysSaid : Prop := storeSaysRow.holds Tryz.pinned (OpenSpec.ofChange storeSaysSpec)

/-- ITS FALSE NEIGHBOUR: 'it returns false'. Refute it at one input. -/
def storeSaysWrong : ChangeSpec := { name := "storeSays", fn := fun _ => fun
  | [d1, d2, d3] => { results := [.lit (.bool false)], args := [d1, d2, d3] }
  | _ => none }
def StoreSaysWrongFalsely : Prop := storeSaysRow.holds Tryz.pinned (OpenSpec.ofChange storeSaysWrong)

/- THE SECOND FORM. 'bulk': how many values and letters a reading holds, each counted each time it is reached (what is shared counts as often as it is met; a slice's spare places count too). A statement '..UptoSaid' is the law's where the arguments, and the package variables that the reading takes, are together of bulk at most 1048576: NARROWER than '..Said'. Prove '..Said' where nothing that the law and all that it calls make is longer than what came in: it says more and counts as full. Else prove '..UptoSaid'. A law counts once. -/
mutual
def uptoBulk {H : Type} : DataW H → Nat
  | .lit (.string bytes) => bytes.length + 1
  | .lit _ => 1
  | .nil => 1
  | .ptr d => uptoBulk d + 1
  | .slice elems spare => uptoBulkAll elems + uptoBulkAll spare + 1
  | .agg parts => uptoBulkAll parts + 1
  | .iface _ d => uptoBulk d + 1
  | .map entries => uptoBulkEntries entries + 1
  | .held _ => 1
def uptoBulkAll {H : Type} : List (DataW H) → Nat
  | [] => 0
  | d :: r => uptoBulk d + uptoBulkAll r
def uptoBulkEntries {H : Type} : List (Lit × DataW H) → Nat
  | [] => 0
  | x :: r => uptoBulkEntry x + uptoBulkEntries r
def uptoBulkEntry {H : Type} : Lit × DataW H → Nat
  | (.string bytes, d) => bytes.length + uptoBulk d + 1
  | (_, d) => uptoBulk d + 1
 end
def uptoSmall : (H : Type) → List (DataW H) → Bool := fun _ ds => decide (uptoBulkAll ds ≤ 1048576)
def OpenSpec.upto (s : _root_.Go.ChangeSpec) : _root_.Go.OpenSpec := { _root_.Go.OpenSpec.ofChange s with cond := some uptoSmall }

/-- 'orchestratorlaw14.StoreStale', WHERE WHAT IT READS IS OF BULK AT MOST 1048576: true; the input reads as it did. -/
def storeStaleUptoRow : OpenClaim := { program := "ytbopaemngpbdgaagreat", sum := "b62a829acad08acf488c173c473e9b2b8a4a23474eaaa7a5ffcd071a9522298a", func := "orchestrator/orchestratorlaw14.StoreStale", spec := "storeStale", inPlace := ["internal/bytealg.abigen_runtime_cmpstring", "slices.overlaps[orchestrator/api.Object]"], unfollowed := true, recurses := true, loops := true, apart := false, narrowed := true }
def StoreStaleUptoSaid : Prop := storeStaleUptoRow.holds Tryz.pinned (OpenSpec.upto storeStaleSpec)

/-- 'orchestratorlaw14.StoreValid', WHERE WHAT IT READS IS OF BULK AT MOST 1048576: true; the input reads as it did. -/
def storeValidUptoRow : OpenClaim := { program := "ytbopaemngpbdgaagreat", sum := "b62a829acad08acf488c173c473e9b2b8a4a23474eaaa7a5ffcd071a9522298a", func := "orchestrator/orchestratorlaw14.StoreValid", spec := "storeValid", inPlace := ["internal/bytealg.abigen_runtime_cmpstring", "slices.overlaps[orchestrator/api.Object]"], unfollowed := true, recurses := true, loops := true, apart := false, narrowed := true }
def StoreValidUptoSaid : Prop := storeValidUptoRow.holds Tryz.pinned (OpenSpec.upto storeValidSpec)

/-- 'orchestratorlaw14.StoreSays', WHERE WHAT IT READS IS OF BULK AT MOST 1048576: true; the input reads as it did. -/
def storeSaysUptoRow : OpenClaim := { program := "ytbopaemngpbdgaagreat", sum := "b62a829acad08acf488c173c473e9b2b8a4a23474eaaa7a5ffcd071a9522298a", func := "orchestrator/orchestratorlaw14.StoreSays", spec := "storeSays", inPlace := ["internal/bytealg.abigen_runtime_cmpstring", "slices.overlaps[orchestrator/api.Object]"], unfollowed := true, recurses := true, loops := true, apart := false, narrowed := true }
def StoreSaysUptoSaid : Prop := storeSaysUptoRow.holds Tryz.pinned (OpenSpec.upto storeSaysSpec)

end Rows
end Go.Proofs.YtbopaemngpbdgaaGreat
