/- The law's row over its plain law. -/
import Derived.Test.YtadhmlfnfgpjjaaCP
import Derived.Test.YtadhmlfnfgpjjaaFF
import Derived.Test.YtadhmlfnfgpjjaaRows
set_option linter.unusedVariables false
set_option linter.unusedSimpArgs false
namespace Go.Proofs.Ytadhmlfnfgpjjaa
open Go Go.Fw
set_option maxRecDepth 100000
theorem ownKnob_ok : ownKnob Try.prog.godebug = none := by kernel_rfl
theorem bulkAll_sum {H : Type} : ∀ l : List (DataW H), Rows.uptoBulkAll l = (l.map Rows.uptoBulk).sum
  | [] => rfl
  | d :: l => by simp only [Rows.uptoBulkAll, List.map_cons, List.sum_cons, bulkAll_sum l]
theorem bulkOk {H : Type} : BulkOk (Rows.uptoBulk (H := H)) := by
  refine ⟨fun b => by simp [Rows.uptoBulk], fun d => ?_, fun xs ys => ?_, fun xs => ?_⟩
  · cases d with
    | lit l => cases l <;> simp [Rows.uptoBulk]
    | nil => simp [Rows.uptoBulk]
    | ptr d => simp [Rows.uptoBulk]
    | slice elems spare => simp [Rows.uptoBulk]
    | agg parts => simp [Rows.uptoBulk]
    | iface t d => simp [Rows.uptoBulk]
    | map entries => simp [Rows.uptoBulk]
    | held h => simp [Rows.uptoBulk]
  · simp only [Rows.uptoBulk, bulkAll_sum]; omega
  · simp only [Rows.uptoBulk, bulkAll_sum]; omega
theorem bulkSmall {H : Type} {l : List (DataW H)} (hk : Rows.uptoSmall H l = true) : (l.map Rows.uptoBulk).sum ≤ 1048576 := by
  have h := of_decide_eq_true hk
  rwa [bulkAll_sum] at h
section
open Go.ChangeShapes Go.WideShapes Go.ChangeAt Go.RowKit
theorem rd_Label : Reads Try.prog 45 eLabel okLabel wLabel := rd_struct (β := ByteArray × ByteArray × Unit) Try.underlying45 (by kernel_rfl) (rdF_cons (n := 1) (rd_str Try.underlying9) (by kernel_rfl) rfl (rdF_cons (n := 1) (rd_str Try.underlying9) (by kernel_rfl) rfl rdF_nil)) (fun p => ⟨p.1, p.2.1⟩) (by intro _; rfl) (by intro _ h; exact h) (by intro _; rfl)
theorem rd_Requirement : Reads Try.prog 43 eRequirement okRequirement wRequirement := rd_struct (β := ByteArray × Int × (List ByteArray) × Unit) Try.underlying43 (by kernel_rfl) (rdF_cons (n := 1) (rd_str Try.underlying9) (by kernel_rfl) rfl (rdF_cons (n := 1) (rd_int Try.underlying3) (by kernel_rfl) rfl (rdF_cons (n := 1) (rd_slice (enc := eS) (sz := 1) Try.underlying41 (rd_str Try.underlying9) (by kernel_rfl) (by decide) (fun _ => rfl)) (by kernel_rfl) rfl rdF_nil))) (fun p => ⟨p.1, p.2.1, p.2.2.1⟩) (by intro _; rfl) (by intro _ h; exact h) (by intro _; rfl)
theorem LabelMatches_ra : ReadsAll Try.prog [23, 22] (α := (List Requirement) × (List Label) × Unit) (fun p => [.c (.d (.sl (p.1.map eRequirement))), .c (.d (.sl (p.2.1.map eLabel)))]) (fun p => (okL okRequirement) p.1 ∧ (okL okLabel) p.2.1 ∧ True) (fun p => (wL wRequirement) p.1 + ((wL wLabel) p.2.1 + (0))) := (ra_cons (rv_cell (f := fun (a : (List Requirement)) => D.sl (a.map eRequirement)) (oc_slice Try.underlying23) (rd_slice (enc := eRequirement) (sz := 3) Try.underlying23 rd_Requirement (by kernel_rfl) (by decide) (fun _ => rfl))) (ra_cons (rv_cell (f := fun (a : (List Label)) => D.sl (a.map eLabel)) (oc_slice Try.underlying22) (rd_slice (enc := eLabel) (sz := 2) Try.underlying22 rd_Label (by kernel_rfl) (by decide) (fun _ => rfl))) ra_nil))
set_option maxRecDepth 100000 in
theorem LabelMatches_lifted (hp : LabelMatches.Pure) (os : Os) (started : os.Started) (H : Type) (enc : TypeId × Value → H) (F : Stop.Interp) :
    ReturnsInHanded {} Try.checked os 5 .any ((Rows.OpenSpec.upto Rows.labelMatchesSpec).pre6 enc Try.prog Try.f5 Rows.labelMatchesUptoRow.domain false) (((Rows.OpenSpec.upto Rows.labelMatchesSpec).at F).post enc Try.prog Try.f5 false true false false) := by
  refine returnsInHanded_of_cond (C := Try.checked) (s := Rows.OpenSpec.upto Rows.labelMatchesSpec) (k := Rows.uptoSmall) rfl ownKnob_ok started (by kernel_rfl) Try.func5
    (OpenSpec.witness (enc := enc) (C := Try.checked) (s := Rows.OpenSpec.upto Rows.labelMatchesSpec) (k := Rows.uptoSmall) rfl false ⟨#[], #[.slice none 0 0, .slice none 0 0], []⟩ 8 (by kernel_rfl) (by kernel_rfl) (by kernel_rfl)
      (x := ([.nil, .nil], [], [])) (by kernel_rfl) rfl (by kernel_rfl)) ?_
  intro W base args ds gs before hval hW _ hk _
  refine row_contract (f := 5) (fn := Try.f5) (s := Rows.labelMatchesSpec) (tb := 4) (by kernel_rfl) (by kernel_rfl) (by kernel_rfl) (by kernel_rfl) rfl (by kernel_rfl) Try.underlying4 (of_decide_eq_true (by kernel_rfl)) (fun H ds hd => ?_)
    (N := 1048576) (hrd := by rw [Try.params5]; exact LabelMatches_ra) (fun a ok wt => ?_) H enc Rows.uptoBulk bulkOk W base args ds gs before hval hW (bulkSmall hk)
  · rw [Try.params5] at hd
    match ds, hd with
    | [d0, d1], _ => rfl
  · obtain ⟨x0, x1, _⟩ := a
    obtain ⟨o0, o1, _⟩ := ok
    exact F5_ok (hp x0 x1 o0 o1 wt)
theorem LabelMatches_over (hp : LabelMatches.Pure) : Rows.labelMatchesUptoRow.holds Try.pinned (Rows.OpenSpec.upto Rows.labelMatchesSpec) :=
  OpenClaim.holds_of_cond 5 Try.f5 rfl rfl rfl rfl rfl rfl rfl ⟨rfl, rfl, rfl, rfl, rfl⟩ rfl rfl rfl rfl rfl (by kernel_rfl) Try.func5 (by kernel_rfl)
    (of_decide_eq_true (by kernel_rfl)) (by unfold Func.isWrapper; first | (rw [if_pos (by decide +kernel)]; kernel_rfl) | (rw [if_neg (by decide +kernel)]; exact ⟨rfl, rfl⟩))
    (fun os started H enc _ F => LabelMatches_lifted hp os started H enc F)
end
end Go.Proofs.Ytadhmlfnfgpjjaa
