/-
  NARROWER THAN 'FOR EVERY INPUT', by the rows' own cells (each row's printed sentence says how): CacheApplies: loops · CacheRepeats: loops · CacheSyncs: loops · CacheConverges: loops · CacheTells: loops.
  DERIVED. THE GIVEN ROWS OF THIS SEAT. 5 by the template 'for every input the law returns true; each argument reads behind the call as it read before'; 0 by the template 'total and deterministic' (their statements: YtdkmamiedcanfaaGreatTotals.lean).
  GIVEN WITH THE SEED: the statements are not yours to turn. If you find one false, say at which input.
  Laid BY PROGRAM, IN A SANDBOX (cutbox-rows.mjs): the forced cells as the released guide's own fill.sh prints them over the translation 612ec816456cd349… (all of the seat's roots in one cut). By AI agents, Wed Nov 11 2026. No macro, syntax, notation, axiom, sorry.
-/
import Derived.Test.YtdkmamiedcanfaaGreatChecked
import GoSem.Claim
import GoSem.ClaimJoined
import GoSem.ClaimMapViews
import Derived.JoinedTies
import Derived.KernelRfl
namespace Go.Proofs.YtdkmamiedcanfaaGreat
/- THE CELL 'sum', in the pinned program and in every row, IS THE sha256 OF THE DUMP (.gsa) THAT YtdkmamiedcanfaaGreatProg.lean LOADS. Nothing in Lean hashes anything: it is a label: what it is worth is what the hold of that sum in a sandbox is worth. -/
noncomputable def Tryz.pinned : Pinned := { name := "ytdkmamiedcanfaagreat", sum := "612ec816456cd349d08ba1348508d072734ae65c78b37e0e7533476aa3c8c461", checked := Tryz.checked }
namespace Rows
def none {H : Type} : Left H := { results := [], args := [] }

/-- 'orchestratorlaw16.CacheApplies': WHATEVER THE INPUT: true; the input reads as it did. -/
def cacheAppliesSpec : ChangeSpec := { name := "cacheApplies", fn := fun _ => fun
  | [d1, d2, d3] => { results := [.lit (.bool true)], args := [d1, d2, d3] }
  | _ => none }
def cacheAppliesRow : OpenClaim := { program := "ytdkmamiedcanfaagreat", sum := "612ec816456cd349d08ba1348508d072734ae65c78b37e0e7533476aa3c8c461", func := "orchestrator/orchestratorlaw16.CacheApplies", spec := "cacheApplies", inPlace := ["internal/bytealg.abigen_runtime_cmpstring", "slices.overlaps[orchestrator/api.Object]"], unfollowed := true, recurses := true, loops := true, apart := false }
def CacheAppliesSaid : Prop := cacheAppliesRow.holds Tryz.pinned (OpenSpec.ofChange cacheAppliesSpec)

/-- ITS FALSE NEIGHBOUR: 'it returns false'. Refute it at one input. -/
def cacheAppliesWrong : ChangeSpec := { name := "cacheApplies", fn := fun _ => fun
  | [d1, d2, d3] => { results := [.lit (.bool false)], args := [d1, d2, d3] }
  | _ => none }
def CacheAppliesWrongFalsely : Prop := cacheAppliesRow.holds Tryz.pinned (OpenSpec.ofChange cacheAppliesWrong)

/-- 'orchestratorlaw16.CacheRepeats': WHATEVER THE INPUT: true; the input reads as it did. -/
def cacheRepeatsSpec : ChangeSpec := { name := "cacheRepeats", fn := fun _ => fun
  | [d1, d2, d3] => { results := [.lit (.bool true)], args := [d1, d2, d3] }
  | _ => none }
def cacheRepeatsRow : OpenClaim := { program := "ytdkmamiedcanfaagreat", sum := "612ec816456cd349d08ba1348508d072734ae65c78b37e0e7533476aa3c8c461", func := "orchestrator/orchestratorlaw16.CacheRepeats", spec := "cacheRepeats", inPlace := ["internal/bytealg.abigen_runtime_cmpstring", "slices.overlaps[orchestrator/api.Object]"], unfollowed := true, recurses := true, loops := true, apart := false }
def CacheRepeatsSaid : Prop := cacheRepeatsRow.holds Tryz.pinned (OpenSpec.ofChange cacheRepeatsSpec)

/-- ITS FALSE NEIGHBOUR: 'it returns false'. Refute it at one input. -/
def cacheRepeatsWrong : ChangeSpec := { name := "cacheRepeats", fn := fun _ => fun
  | [d1, d2, d3] => { results := [.lit (.bool false)], args := [d1, d2, d3] }
  | _ => none }
def CacheRepeatsWrongFalsely : Prop := cacheRepeatsRow.holds Tryz.pinned (OpenSpec.ofChange cacheRepeatsWrong)

/-- 'orchestratorlaw16.CacheSyncs': WHATEVER THE INPUT: true; the input reads as it did. -/
def cacheSyncsSpec : ChangeSpec := { name := "cacheSyncs", fn := fun _ => fun
  | [d1, d2, d3] => { results := [.lit (.bool true)], args := [d1, d2, d3] }
  | _ => none }
def cacheSyncsRow : OpenClaim := { program := "ytdkmamiedcanfaagreat", sum := "612ec816456cd349d08ba1348508d072734ae65c78b37e0e7533476aa3c8c461", func := "orchestrator/orchestratorlaw16.CacheSyncs", spec := "cacheSyncs", inPlace := ["internal/bytealg.abigen_runtime_cmpstring", "slices.overlaps[orchestrator/api.Object]"], unfollowed := true, recurses := true, loops := true, apart := false }
def CacheSyncsSaid : Prop := cacheSyncsRow.holds Tryz.pinned (OpenSpec.ofChange cacheSyncsSpec)

/-- ITS FALSE NEIGHBOUR: 'it returns false'. Refute it at one input. -/
def cacheSyncsWrong : ChangeSpec := { name := "cacheSyncs", fn := fun _ => fun
  | [d1, d2, d3] => { results := [.lit (.bool false)], args := [d1, d2, d3] }
  | _ => none }
def CacheSyncsWrongFalsely : Prop := cacheSyncsRow.holds Tryz.pinned (OpenSpec.ofChange cacheSyncsWrong)

/-- 'orchestratorlaw16.CacheConverges': WHATEVER THE INPUT: true; the input reads as it did. -/
def cacheConvergesSpec : ChangeSpec := { name := "cacheConverges", fn := fun _ => fun
  | [d1, d2, d3, d4] => { results := [.lit (.bool true)], args := [d1, d2, d3, d4] }
  | _ => none }
def cacheConvergesRow : OpenClaim := { program := "ytdkmamiedcanfaagreat", sum := "612ec816456cd349d08ba1348508d072734ae65c78b37e0e7533476aa3c8c461", func := "orchestrator/orchestratorlaw16.CacheConverges", spec := "cacheConverges", inPlace := ["internal/bytealg.abigen_runtime_cmpstring", "slices.overlaps[orchestrator/api.Object]"], unfollowed := true, recurses := true, loops := true, apart := false }
def CacheConvergesSaid : Prop := cacheConvergesRow.holds Tryz.pinned (OpenSpec.ofChange cacheConvergesSpec)

/-- ITS FALSE NEIGHBOUR: 'it returns false'. Refute it at one input. -/
def cacheConvergesWrong : ChangeSpec := { name := "cacheConverges", fn := fun _ => fun
  | [d1, d2, d3, d4] => { results := [.lit (.bool false)], args := [d1, d2, d3, d4] }
  | _ => none }
def CacheConvergesWrongFalsely : Prop := cacheConvergesRow.holds Tryz.pinned (OpenSpec.ofChange cacheConvergesWrong)

/-- 'orchestratorlaw16.CacheTells': WHATEVER THE INPUT: true; the input reads as it did. -/
def cacheTellsSpec : ChangeSpec := { name := "cacheTells", fn := fun _ => fun
  | [d1, d2, d3, d4] => { results := [.lit (.bool true)], args := [d1, d2, d3, d4] }
  | _ => none }
def cacheTellsRow : OpenClaim := { program := "ytdkmamiedcanfaagreat", sum := "612ec816456cd349d08ba1348508d072734ae65c78b37e0e7533476aa3c8c461", func := "orchestrator/orchestratorlaw16.CacheTells", spec := "cacheTells", inPlace := ["internal/bytealg.abigen_runtime_cmpstring", "slices.overlaps[orchestrator/api.Object]"], unfollowed := true, recurses := true, loops := true, apart := false }
def CacheTellsSaid : Prop := cacheTellsRow.holds Tryz.pinned (OpenSpec.ofChange cacheTellsSpec)

/-- ITS FALSE NEIGHBOUR: 'it returns false'. Refute it at one input. -/
def cacheTellsWrong : ChangeSpec := { name := "cacheTells", fn := fun _ => fun
  | [d1, d2, d3, d4] => { results := [.lit (.bool false)], args := [d1, d2, d3, d4] }
  | _ => none }
def CacheTellsWrongFalsely : Prop := cacheTellsRow.holds Tryz.pinned (OpenSpec.ofChange cacheTellsWrong)

/- THE SECOND FORM. 'bulk': how many values and letters a reading holds, each counted each time it is reached (what is shared counts as often as it is met; a slice's spare places count too). A statement '..UptoSaid' is the law's where the arguments, and the package variables that the reading takes, are together of bulk at most 1048576: NARROWER than '..Said'. Prove '..Said' where nothing that the law and all that it calls make is longer than what came in: it says more and counts as full. Else prove '..UptoSaid'. A law counts once. -/
mutual
def uptoBulk {H : Type} : DataW H → Nat
  | .lit (.string bytes) => bytes.length + 1
  | .lit _ => 1
  | .nil => 1
  | .ptr d => uptoBulk d + 1
  | .slice elems spare => uptoBulkAll elems + uptoBulkAll spare + 1
  | .agg parts => uptoBulkAll parts + 1
  | .iface _ d => uptoBulk d + 1
  | .map entries => uptoBulkEntries entries + 1
  | .held _ => 1
def uptoBulkAll {H : Type} : List (DataW H) → Nat
  | [] => 0
  | d :: r => uptoBulk d + uptoBulkAll r
def uptoBulkEntries {H : Type} : List (Lit × DataW H) → Nat
  | [] => 0
  | x :: r => uptoBulkEntry x + uptoBulkEntries r
def uptoBulkEntry {H : Type} : Lit × DataW H → Nat
  | (.string bytes, d) => bytes.length + uptoBulk d + 1
  | (_, d) => uptoBulk d + 1
 end
def uptoSmall : (H : Type) → List (DataW H) → Bool := fun _ ds => decide (uptoBulkAll ds ≤ 1048576)
def OpenSpec.upto (s : _root_.Go.ChangeSpec) : _root_.Go.OpenSpec := { _root_.Go.OpenSpec.ofChange s with cond := some uptoSmall }

/-- 'orchestratorlaw16.CacheApplies', WHERE WHAT IT READS IS OF BULK AT MOST 1048576: true; the input reads as it did. -/
def cacheAppliesUptoRow : OpenClaim := { program := "ytdkmamiedcanfaagreat", sum := "612ec816456cd349d08ba1348508d072734ae65c78b37e0e7533476aa3c8c461", func := "orchestrator/orchestratorlaw16.CacheApplies", spec := "cacheApplies", inPlace := ["internal/bytealg.abigen_runtime_cmpstring", "slices.overlaps[orchestrator/api.Object]"], unfollowed := true, recurses := true, loops := true, apart := false, narrowed := true }
def CacheAppliesUptoSaid : Prop := cacheAppliesUptoRow.holds Tryz.pinned (OpenSpec.upto cacheAppliesSpec)

/-- 'orchestratorlaw16.CacheRepeats', WHERE WHAT IT READS IS OF BULK AT MOST 1048576: true; the input reads as it did. -/
def cacheRepeatsUptoRow : OpenClaim := { program := "ytdkmamiedcanfaagreat", sum := "612ec816456cd349d08ba1348508d072734ae65c78b37e0e7533476aa3c8c461", func := "orchestrator/orchestratorlaw16.CacheRepeats", spec := "cacheRepeats", inPlace := ["internal/bytealg.abigen_runtime_cmpstring", "slices.overlaps[orchestrator/api.Object]"], unfollowed := true, recurses := true, loops := true, apart := false, narrowed := true }
def CacheRepeatsUptoSaid : Prop := cacheRepeatsUptoRow.holds Tryz.pinned (OpenSpec.upto cacheRepeatsSpec)

/-- 'orchestratorlaw16.CacheSyncs', WHERE WHAT IT READS IS OF BULK AT MOST 1048576: true; the input reads as it did. -/
def cacheSyncsUptoRow : OpenClaim := { program := "ytdkmamiedcanfaagreat", sum := "612ec816456cd349d08ba1348508d072734ae65c78b37e0e7533476aa3c8c461", func := "orchestrator/orchestratorlaw16.CacheSyncs", spec := "cacheSyncs", inPlace := ["internal/bytealg.abigen_runtime_cmpstring", "slices.overlaps[orchestrator/api.Object]"], unfollowed := true, recurses := true, loops := true, apart := false, narrowed := true }
def CacheSyncsUptoSaid : Prop := cacheSyncsUptoRow.holds Tryz.pinned (OpenSpec.upto cacheSyncsSpec)

/-- 'orchestratorlaw16.CacheConverges', WHERE WHAT IT READS IS OF BULK AT MOST 1048576: true; the input reads as it did. -/
def cacheConvergesUptoRow : OpenClaim := { program := "ytdkmamiedcanfaagreat", sum := "612ec816456cd349d08ba1348508d072734ae65c78b37e0e7533476aa3c8c461", func := "orchestrator/orchestratorlaw16.CacheConverges", spec := "cacheConverges", inPlace := ["internal/bytealg.abigen_runtime_cmpstring", "slices.overlaps[orchestrator/api.Object]"], unfollowed := true, recurses := true, loops := true, apart := false, narrowed := true }
def CacheConvergesUptoSaid : Prop := cacheConvergesUptoRow.holds Tryz.pinned (OpenSpec.upto cacheConvergesSpec)

/-- 'orchestratorlaw16.CacheTells', WHERE WHAT IT READS IS OF BULK AT MOST 1048576: true; the input reads as it did. -/
def cacheTellsUptoRow : OpenClaim := { program := "ytdkmamiedcanfaagreat", sum := "612ec816456cd349d08ba1348508d072734ae65c78b37e0e7533476aa3c8c461", func := "orchestrator/orchestratorlaw16.CacheTells", spec := "cacheTells", inPlace := ["internal/bytealg.abigen_runtime_cmpstring", "slices.overlaps[orchestrator/api.Object]"], unfollowed := true, recurses := true, loops := true, apart := false, narrowed := true }
def CacheTellsUptoSaid : Prop := cacheTellsUptoRow.holds Tryz.pinned (OpenSpec.upto cacheTellsSpec)

end Rows
end Go.Proofs.YtdkmamiedcanfaaGreat
