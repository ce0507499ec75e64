/- The law's row over its plain law. -/
import Derived.Test.YtfkkccgopmcnaaaAP
import Derived.Test.YtfkkccgopmcnaaaFF
import Derived.Test.YtfkkccgopmcnaaaRows
set_option linter.unusedVariables false
set_option linter.unusedSimpArgs false
namespace Go.Proofs.Ytfkkccgopmcnaaa
open Go Go.Fw
set_option maxRecDepth 100000
theorem ownKnob_ok : ownKnob Try.prog.godebug = none := by kernel_rfl
theorem bulkAll_sum {H : Type} : ∀ l : List (DataW H), Rows.uptoBulkAll l = (l.map Rows.uptoBulk).sum
  | [] => rfl
  | d :: l => by simp only [Rows.uptoBulkAll, List.map_cons, List.sum_cons, bulkAll_sum l]
theorem bulkOk {H : Type} : BulkOk (Rows.uptoBulk (H := H)) := by
  refine ⟨fun b => by simp [Rows.uptoBulk], fun d => ?_, fun xs ys => ?_, fun xs => ?_⟩
  · cases d with
    | lit l => cases l <;> simp [Rows.uptoBulk]
    | nil => simp [Rows.uptoBulk]
    | ptr d => simp [Rows.uptoBulk]
    | slice elems spare => simp [Rows.uptoBulk]
    | agg parts => simp [Rows.uptoBulk]
    | iface t d => simp [Rows.uptoBulk]
    | map entries => simp [Rows.uptoBulk]
    | held h => simp [Rows.uptoBulk]
  · simp only [Rows.uptoBulk, bulkAll_sum]; omega
  · simp only [Rows.uptoBulk, bulkAll_sum]; omega
theorem bulkSmall {H : Type} {l : List (DataW H)} (hk : Rows.uptoSmall H l = true) : (l.map Rows.uptoBulk).sum ≤ 1048576 := by
  have h := of_decide_eq_true hk
  rwa [bulkAll_sum] at h
section
open Go.ChangeShapes Go.WideShapes Go.ChangeAt Go.RowKit
theorem rd_Endpoint : Reads Try.prog 49 eEndpoint okEndpoint wEndpoint := rd_struct (β := ByteArray × ByteArray × Int × Bool × Bool × Unit) Try.underlying49 (by kernel_rfl) (rdF_cons (n := 1) (rd_str Try.underlying9) (by kernel_rfl) rfl (rdF_cons (n := 1) (rd_str Try.underlying9) (by kernel_rfl) rfl (rdF_cons (n := 1) (rd_int Try.underlying3) (by kernel_rfl) rfl (rdF_cons (n := 1) (rd_bool Try.underlying4) (by kernel_rfl) rfl (rdF_cons (n := 1) (rd_bool Try.underlying4) (by kernel_rfl) rfl rdF_nil))))) (fun p => ⟨p.1, p.2.1, p.2.2.1, p.2.2.2.1, p.2.2.2.2.1⟩) (by intro _; rfl) (by intro _ h; exact h) (by intro _; rfl)
theorem EndpointsDiffs_ra : ReadsAll Try.prog [36, 36] (α := (List Endpoint) × (List Endpoint) × Unit) (fun p => [.c (.d (.sl (p.1.map eEndpoint))), .c (.d (.sl (p.2.1.map eEndpoint)))]) (fun p => (okL okEndpoint) p.1 ∧ (okL okEndpoint) p.2.1 ∧ True) (fun p => (wL wEndpoint) p.1 + ((wL wEndpoint) p.2.1 + (0))) := (ra_cons (rv_cell (f := fun (a : (List Endpoint)) => D.sl (a.map eEndpoint)) (oc_slice Try.underlying36) (rd_slice (enc := eEndpoint) (sz := 5) Try.underlying36 rd_Endpoint (by kernel_rfl) (by decide) (fun _ => rfl))) (ra_cons (rv_cell (f := fun (a : (List Endpoint)) => D.sl (a.map eEndpoint)) (oc_slice Try.underlying36) (rd_slice (enc := eEndpoint) (sz := 5) Try.underlying36 rd_Endpoint (by kernel_rfl) (by decide) (fun _ => rfl))) ra_nil))
set_option maxRecDepth 100000 in
theorem EndpointsDiffs_lifted (hp : EndpointsDiffs.Pure) (os : Os) (started : os.Started) (H : Type) (enc : TypeId × Value → H) (F : Stop.Interp) :
    ReturnsInHanded {} Try.checked os 4 .any ((Rows.OpenSpec.upto Rows.endpointsDiffsSpec).pre6 enc Try.prog Try.f4 Rows.endpointsDiffsUptoRow.domain false) (((Rows.OpenSpec.upto Rows.endpointsDiffsSpec).at F).post enc Try.prog Try.f4 false true false false) := by
  refine returnsInHanded_of_cond (C := Try.checked) (s := Rows.OpenSpec.upto Rows.endpointsDiffsSpec) (k := Rows.uptoSmall) rfl ownKnob_ok started (by kernel_rfl) Try.func4
    (OpenSpec.witness (enc := enc) (C := Try.checked) (s := Rows.OpenSpec.upto Rows.endpointsDiffsSpec) (k := Rows.uptoSmall) rfl false ⟨#[], #[.slice none 0 0, .slice none 0 0], []⟩ 8 (by kernel_rfl) (by kernel_rfl) (by kernel_rfl)
      (x := ([.nil, .nil], [], [])) (by kernel_rfl) rfl (by kernel_rfl)) ?_
  intro W base args ds gs before hval hW _ hk _
  refine row_contract (f := 4) (fn := Try.f4) (s := Rows.endpointsDiffsSpec) (tb := 4) (by kernel_rfl) (by kernel_rfl) (by kernel_rfl) (by kernel_rfl) rfl (by kernel_rfl) Try.underlying4 (of_decide_eq_true (by kernel_rfl)) (fun H ds hd => ?_)
    (N := 1048576) (hrd := by rw [Try.params4]; exact EndpointsDiffs_ra) (fun a ok wt => ?_) H enc Rows.uptoBulk bulkOk W base args ds gs before hval hW (bulkSmall hk)
  · rw [Try.params4] at hd
    match ds, hd with
    | [d0, d1], _ => rfl
  · obtain ⟨x0, x1, _⟩ := a
    obtain ⟨o0, o1, _⟩ := ok
    exact F4_ok (hp x0 x1 o0 o1 wt)
theorem EndpointsDiffs_over (hp : EndpointsDiffs.Pure) : Rows.endpointsDiffsUptoRow.holds Try.pinned (Rows.OpenSpec.upto Rows.endpointsDiffsSpec) :=
  OpenClaim.holds_of_cond 4 Try.f4 rfl rfl rfl rfl rfl rfl rfl ⟨rfl, rfl, rfl, rfl, rfl⟩ rfl rfl rfl rfl rfl (by kernel_rfl) Try.func4 (by kernel_rfl)
    (of_decide_eq_true (by kernel_rfl)) (by unfold Func.isWrapper; first | (rw [if_pos (by decide +kernel)]; kernel_rfl) | (rw [if_neg (by decide +kernel)]; exact ⟨rfl, rfl⟩))
    (fun os started H enc _ F => EndpointsDiffs_lifted hp os started H enc F)
end
end Go.Proofs.Ytfkkccgopmcnaaa
