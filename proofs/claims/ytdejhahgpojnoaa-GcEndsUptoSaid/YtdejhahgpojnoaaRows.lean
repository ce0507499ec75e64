/-
  NARROWER THAN 'FOR EVERY INPUT', by the rows' own cells (each row's printed sentence says how): GcPlans: loops · GcFinds: loops · GcEnds: loops · GcLiving: loops.
  DERIVED. THE GIVEN ROWS OF THIS SEAT. 4 by the template 'for every input the law returns true; each argument reads behind the call as it read before'; 0 by the template 'total and deterministic' (their statements: YtdejhahgpojnoaaTotals.lean).
  GIVEN WITH THE SEED: the statements are not yours to turn. If you find one false, say at which input.
  Laid BY PROGRAM, IN A SANDBOX (cutbox-rows.mjs): the forced cells as the released guide's own fill.sh prints them over the translation 21bfd727678c96d2… (all of the seat's roots in one cut). By AI agents, Wed Nov 11 2026. No macro, syntax, notation, axiom, sorry.
-/
import Derived.Test.YtdejhahgpojnoaaChecked
import GoSem.Claim
import GoSem.ClaimJoined
import GoSem.ClaimMapViews
import Derived.JoinedTies
import Derived.KernelRfl
namespace Go.Proofs.Ytdejhahgpojnoaa
/- THE CELL 'sum', in the pinned program and in every row, IS THE sha256 OF THE DUMP (.gsa) THAT YtdejhahgpojnoaaProg.lean LOADS. Nothing in Lean hashes anything: it is a label: what it is worth is what the hold of that sum in a sandbox is worth. -/
noncomputable def Try.pinned : Pinned := { name := "ytdejhahgpojnoaa", sum := "21bfd727678c96d26a09583249e2ae6336be961a5b55263e761324a3159942e7", checked := Try.checked }
namespace Rows
def none {H : Type} : Left H := { results := [], args := [] }

/-- 'orchestratorlaw24.GcPlans': WHATEVER THE INPUT: true; the input reads as it did. -/
def gcPlansSpec : ChangeSpec := { name := "gcPlans", fn := fun _ => fun
  | [d] => { results := [.lit (.bool true)], args := [d] }
  | _ => none }
def gcPlansRow : OpenClaim := { program := "ytdejhahgpojnoaa", sum := "21bfd727678c96d26a09583249e2ae6336be961a5b55263e761324a3159942e7", func := "orchestrator/orchestratorlaw24.GcPlans", spec := "gcPlans", inPlace := ["internal/bytealg.abigen_runtime_cmpstring"], unfollowed := true, recurses := true, loops := true, apart := false }
def GcPlansSaid : Prop := gcPlansRow.holds Try.pinned (OpenSpec.ofChange gcPlansSpec)

/-- ITS FALSE NEIGHBOUR: 'it returns false'. Refute it at one input. -/
def gcPlansWrong : ChangeSpec := { name := "gcPlans", fn := fun _ => fun
  | [d] => { results := [.lit (.bool false)], args := [d] }
  | _ => none }
def GcPlansWrongFalsely : Prop := gcPlansRow.holds Try.pinned (OpenSpec.ofChange gcPlansWrong)

/-- 'orchestratorlaw24.GcFinds': WHATEVER THE INPUT: true; the input reads as it did. -/
def gcFindsSpec : ChangeSpec := { name := "gcFinds", fn := fun _ => fun
  | [d1, d2] => { results := [.lit (.bool true)], args := [d1, d2] }
  | _ => none }
def gcFindsRow : OpenClaim := { program := "ytdejhahgpojnoaa", sum := "21bfd727678c96d26a09583249e2ae6336be961a5b55263e761324a3159942e7", func := "orchestrator/orchestratorlaw24.GcFinds", spec := "gcFinds", inPlace := ["internal/bytealg.abigen_runtime_cmpstring"], unfollowed := true, recurses := true, loops := true, apart := false }
def GcFindsSaid : Prop := gcFindsRow.holds Try.pinned (OpenSpec.ofChange gcFindsSpec)

/-- ITS FALSE NEIGHBOUR: 'it returns false'. Refute it at one input. -/
def gcFindsWrong : ChangeSpec := { name := "gcFinds", fn := fun _ => fun
  | [d1, d2] => { results := [.lit (.bool false)], args := [d1, d2] }
  | _ => none }
def GcFindsWrongFalsely : Prop := gcFindsRow.holds Try.pinned (OpenSpec.ofChange gcFindsWrong)

/-- 'orchestratorlaw24.GcEnds': WHATEVER THE INPUT: true; the input reads as it did. -/
def gcEndsSpec : ChangeSpec := { name := "gcEnds", fn := fun _ => fun
  | [d] => { results := [.lit (.bool true)], args := [d] }
  | _ => none }
def gcEndsRow : OpenClaim := { program := "ytdejhahgpojnoaa", sum := "21bfd727678c96d26a09583249e2ae6336be961a5b55263e761324a3159942e7", func := "orchestrator/orchestratorlaw24.GcEnds", spec := "gcEnds", inPlace := ["internal/bytealg.abigen_runtime_cmpstring"], unfollowed := true, recurses := true, loops := true, apart := false }
def GcEndsSaid : Prop := gcEndsRow.holds Try.pinned (OpenSpec.ofChange gcEndsSpec)

/-- ITS FALSE NEIGHBOUR: 'it returns false'. Refute it at one input. -/
def gcEndsWrong : ChangeSpec := { name := "gcEnds", fn := fun _ => fun
  | [d] => { results := [.lit (.bool false)], args := [d] }
  | _ => none }
def GcEndsWrongFalsely : Prop := gcEndsRow.holds Try.pinned (OpenSpec.ofChange gcEndsWrong)

/-- 'orchestratorlaw24.GcLiving': WHATEVER THE INPUT: true; the input reads as it did. -/
def gcLivingSpec : ChangeSpec := { name := "gcLiving", fn := fun _ => fun
  | [d] => { results := [.lit (.bool true)], args := [d] }
  | _ => none }
def gcLivingRow : OpenClaim := { program := "ytdejhahgpojnoaa", sum := "21bfd727678c96d26a09583249e2ae6336be961a5b55263e761324a3159942e7", func := "orchestrator/orchestratorlaw24.GcLiving", spec := "gcLiving", inPlace := ["internal/bytealg.abigen_runtime_cmpstring"], unfollowed := true, recurses := true, loops := true, apart := false }
def GcLivingSaid : Prop := gcLivingRow.holds Try.pinned (OpenSpec.ofChange gcLivingSpec)

/-- ITS FALSE NEIGHBOUR: 'it returns false'. Refute it at one input. -/
def gcLivingWrong : ChangeSpec := { name := "gcLiving", fn := fun _ => fun
  | [d] => { results := [.lit (.bool false)], args := [d] }
  | _ => none }
def GcLivingWrongFalsely : Prop := gcLivingRow.holds Try.pinned (OpenSpec.ofChange gcLivingWrong)

/- THE SECOND FORM. 'bulk': how many values and letters a reading holds, each counted each time it is reached (what is shared counts as often as it is met; a slice's spare places count too). A statement '..UptoSaid' is the law's where the arguments, and the package variables that the reading takes, are together of bulk at most 1048576: NARROWER than '..Said'. Prove '..Said' where nothing that the law and all that it calls make is longer than what came in: it says more and counts as full. Else prove '..UptoSaid'. A law counts once. -/
mutual
def uptoBulk {H : Type} : DataW H → Nat
  | .lit (.string bytes) => bytes.length + 1
  | .lit _ => 1
  | .nil => 1
  | .ptr d => uptoBulk d + 1
  | .slice elems spare => uptoBulkAll elems + uptoBulkAll spare + 1
  | .agg parts => uptoBulkAll parts + 1
  | .iface _ d => uptoBulk d + 1
  | .map entries => uptoBulkEntries entries + 1
  | .held _ => 1
def uptoBulkAll {H : Type} : List (DataW H) → Nat
  | [] => 0
  | d :: r => uptoBulk d + uptoBulkAll r
def uptoBulkEntries {H : Type} : List (Lit × DataW H) → Nat
  | [] => 0
  | x :: r => uptoBulkEntry x + uptoBulkEntries r
def uptoBulkEntry {H : Type} : Lit × DataW H → Nat
  | (.string bytes, d) => bytes.length + uptoBulk d + 1
  | (_, d) => uptoBulk d + 1
 end
def uptoSmall : (H : Type) → List (DataW H) → Bool := fun _ ds => decide (uptoBulkAll ds ≤ 1048576)
def OpenSpec.upto (s : _root_.Go.ChangeSpec) : _root_.Go.OpenSpec := { _root_.Go.OpenSpec.ofChange s with cond := some uptoSmall }

/-- 'orchestratorlaw24.GcPlans', WHERE WHAT IT READS IS OF BULK AT MOST 1048576: true; the input reads as it did. -/
def gcPlansUptoRow : OpenClaim := { program := "ytdejhahgpojnoaa", sum := "21bfd727678c96d26a09583249e2ae6336be961a5b55263e761324a3159942e7", func := "orchestrator/orchestratorlaw24.GcPlans", spec := "gcPlans", inPlace := ["internal/bytealg.abigen_runtime_cmpstring"], unfollowed := true, recurses := true, loops := true, apart := false, narrowed := true }
def GcPlansUptoSaid : Prop := gcPlansUptoRow.holds Try.pinned (OpenSpec.upto gcPlansSpec)

/-- 'orchestratorlaw24.GcFinds', WHERE WHAT IT READS IS OF BULK AT MOST 1048576: true; the input reads as it did. -/
def gcFindsUptoRow : OpenClaim := { program := "ytdejhahgpojnoaa", sum := "21bfd727678c96d26a09583249e2ae6336be961a5b55263e761324a3159942e7", func := "orchestrator/orchestratorlaw24.GcFinds", spec := "gcFinds", inPlace := ["internal/bytealg.abigen_runtime_cmpstring"], unfollowed := true, recurses := true, loops := true, apart := false, narrowed := true }
def GcFindsUptoSaid : Prop := gcFindsUptoRow.holds Try.pinned (OpenSpec.upto gcFindsSpec)

/-- 'orchestratorlaw24.GcEnds', WHERE WHAT IT READS IS OF BULK AT MOST 1048576: true; the input reads as it did. -/
def gcEndsUptoRow : OpenClaim := { program := "ytdejhahgpojnoaa", sum := "21bfd727678c96d26a09583249e2ae6336be961a5b55263e761324a3159942e7", func := "orchestrator/orchestratorlaw24.GcEnds", spec := "gcEnds", inPlace := ["internal/bytealg.abigen_runtime_cmpstring"], unfollowed := true, recurses := true, loops := true, apart := false, narrowed := true }
def GcEndsUptoSaid : Prop := gcEndsUptoRow.holds Try.pinned (OpenSpec.upto gcEndsSpec)

/-- 'orchestratorlaw24.GcLiving', WHERE WHAT IT READS IS OF BULK AT MOST 1048576: true; the input reads as it did. -/
def gcLivingUptoRow : OpenClaim := { program := "ytdejhahgpojnoaa", sum := "21bfd727678c96d26a09583249e2ae6336be961a5b55263e761324a3159942e7", func := "orchestrator/orchestratorlaw24.GcLiving", spec := "gcLiving", inPlace := ["internal/bytealg.abigen_runtime_cmpstring"], unfollowed := true, recurses := true, loops := true, apart := false, narrowed := true }
def GcLivingUptoSaid : Prop := gcLivingUptoRow.holds Try.pinned (OpenSpec.upto gcLivingSpec)

end Rows
end Go.Proofs.Ytdejhahgpojnoaa
