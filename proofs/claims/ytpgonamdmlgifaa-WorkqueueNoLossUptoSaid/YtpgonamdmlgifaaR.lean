/- The laws' rows over their plain laws. -/
import Derived.Test.YtpgonamdmlgifaaP
import Derived.Test.YtpgonamdmlgifaaFF
import Derived.Test.YtpgonamdmlgifaaRows
set_option linter.unusedVariables false
set_option linter.unusedSimpArgs false
namespace Go.Proofs.Ytpgonamdmlgifaa
open Go Go.Fw
set_option maxRecDepth 100000
theorem ownKnob_ok : ownKnob Try.prog.godebug = none := by kernel_rfl
theorem bulkAll_sum {H : Type} : ∀ l : List (DataW H), Rows.uptoBulkAll l = (l.map Rows.uptoBulk).sum
  | [] => rfl
  | d :: l => by simp only [Rows.uptoBulkAll, List.map_cons, List.sum_cons, bulkAll_sum l]
theorem bulkOk {H : Type} : BulkOk (Rows.uptoBulk (H := H)) := by
  refine ⟨fun b => by simp [Rows.uptoBulk], fun d => ?_, fun xs ys => ?_, fun xs => ?_⟩
  · cases d with
    | lit l => cases l <;> simp [Rows.uptoBulk]
    | nil => simp [Rows.uptoBulk]
    | ptr d => simp [Rows.uptoBulk]
    | slice elems spare => simp [Rows.uptoBulk]
    | agg parts => simp [Rows.uptoBulk]
    | iface t d => simp [Rows.uptoBulk]
    | map entries => simp [Rows.uptoBulk]
    | held h => simp [Rows.uptoBulk]
  · simp only [Rows.uptoBulk, bulkAll_sum]; omega
  · simp only [Rows.uptoBulk, bulkAll_sum]; omega
theorem bulkSmall {H : Type} {l : List (DataW H)} (hk : Rows.uptoSmall H l = true) : (l.map Rows.uptoBulk).sum ≤ 1048576 := by
  have h := of_decide_eq_true hk
  rwa [bulkAll_sum] at h
section
open Go.ChangeShapes Go.WideShapes Go.ChangeAt Go.RowKit
theorem rd_Op : Reads Try.prog 33 eOp okOp wOp := rd_struct (β := Int × ByteArray × Int × Int × Int × Unit) Try.underlying33 (by kernel_rfl) (rdF_cons (n := 1) (rd_u8 Try.underlying5) (by kernel_rfl) rfl (rdF_cons (n := 1) (rd_str Try.underlying9) (by kernel_rfl) rfl (rdF_cons (n := 1) (rd_int Try.underlying3) (by kernel_rfl) rfl (rdF_cons (n := 1) (rd_int Try.underlying3) (by kernel_rfl) rfl (rdF_cons (n := 1) (rd_int Try.underlying3) (by kernel_rfl) rfl rdF_nil))))) (fun p => ⟨p.1, p.2.1, p.2.2.1, p.2.2.2.1, p.2.2.2.2.1⟩) (by intro _; rfl) (by intro _ h; exact h) (by intro _; rfl)
theorem WorkqueuePlays_ra : ReadsAll Try.prog [22] (α := (List Op) × Unit) (fun p => [.c (.d (.sl (p.1.map eOp)))]) (fun p => (okL okOp) p.1 ∧ True) (fun p => (wL wOp) p.1 + (0)) := (ra_cons (rv_cell (f := fun (a : (List Op)) => D.sl (a.map eOp)) (oc_slice Try.underlying22) (rd_slice (enc := eOp) (sz := 5) Try.underlying22 rd_Op (by kernel_rfl) (by decide) (fun _ => rfl))) ra_nil)
set_option maxRecDepth 100000 in
theorem WorkqueuePlays_lifted (hp : WorkqueuePlays.Pure) (os : Os) (started : os.Started) (H : Type) (enc : TypeId × Value → H) (F : Stop.Interp) :
    ReturnsInHanded {} Try.checked os 3 .any ((Rows.OpenSpec.upto Rows.workqueuePlaysSpec).pre6 enc Try.prog Try.f3 Rows.workqueuePlaysUptoRow.domain false) (((Rows.OpenSpec.upto Rows.workqueuePlaysSpec).at F).post enc Try.prog Try.f3 false true false false) := by
  refine returnsInHanded_of_cond (C := Try.checked) (s := Rows.OpenSpec.upto Rows.workqueuePlaysSpec) (k := Rows.uptoSmall) rfl ownKnob_ok started (by kernel_rfl) Try.func3
    (OpenSpec.witness (enc := enc) (C := Try.checked) (s := Rows.OpenSpec.upto Rows.workqueuePlaysSpec) (k := Rows.uptoSmall) rfl false ⟨#[], #[.slice none 0 0], []⟩ 8 (by kernel_rfl) (by kernel_rfl) (by kernel_rfl)
      (x := ([.nil], [], [])) (by kernel_rfl) rfl (by kernel_rfl)) ?_
  intro W base args ds gs before hval hW _ hk _
  refine row_contract (f := 3) (fn := Try.f3) (s := Rows.workqueuePlaysSpec) (tb := 4) (by kernel_rfl) (by kernel_rfl) (by kernel_rfl) (by kernel_rfl) rfl (by kernel_rfl) Try.underlying4 (of_decide_eq_true (by kernel_rfl)) (fun H ds hd => ?_)
    (N := 1048576) (hrd := by rw [Try.params3]; exact WorkqueuePlays_ra) (fun a ok wt => ?_) H enc Rows.uptoBulk bulkOk W base args ds gs before hval hW (bulkSmall hk)
  · rw [Try.params3] at hd
    match ds, hd with
    | [d0], _ => rfl
  · obtain ⟨x0, _⟩ := a
    obtain ⟨o0, _⟩ := ok
    exact F3_ok (hp x0 o0 wt)
theorem WorkqueuePlays_over (hp : WorkqueuePlays.Pure) : Rows.workqueuePlaysUptoRow.holds Try.pinned (Rows.OpenSpec.upto Rows.workqueuePlaysSpec) :=
  OpenClaim.holds_of_cond 3 Try.f3 rfl rfl rfl rfl rfl rfl rfl ⟨rfl, rfl, rfl, rfl, rfl⟩ rfl rfl rfl rfl rfl (by kernel_rfl) Try.func3 (by kernel_rfl)
    (of_decide_eq_true (by kernel_rfl)) (by unfold Func.isWrapper; first | (rw [if_pos (by decide +kernel)]; kernel_rfl) | (rw [if_neg (by decide +kernel)]; exact ⟨rfl, rfl⟩))
    (fun os started H enc _ F => WorkqueuePlays_lifted hp os started H enc F)
end
section
open Go.ChangeShapes Go.WideShapes Go.ChangeAt Go.RowKit
theorem WorkqueueInvariant_ra : ReadsAll Try.prog [22] (α := (List Op) × Unit) (fun p => [.c (.d (.sl (p.1.map eOp)))]) (fun p => (okL okOp) p.1 ∧ True) (fun p => (wL wOp) p.1 + (0)) := (ra_cons (rv_cell (f := fun (a : (List Op)) => D.sl (a.map eOp)) (oc_slice Try.underlying22) (rd_slice (enc := eOp) (sz := 5) Try.underlying22 rd_Op (by kernel_rfl) (by decide) (fun _ => rfl))) ra_nil)
set_option maxRecDepth 100000 in
theorem WorkqueueInvariant_lifted (hp : WorkqueueInvariant.Pure) (os : Os) (started : os.Started) (H : Type) (enc : TypeId × Value → H) (F : Stop.Interp) :
    ReturnsInHanded {} Try.checked os 4 .any ((Rows.OpenSpec.upto Rows.workqueueInvariantSpec).pre6 enc Try.prog Try.f4 Rows.workqueueInvariantUptoRow.domain false) (((Rows.OpenSpec.upto Rows.workqueueInvariantSpec).at F).post enc Try.prog Try.f4 false true false false) := by
  refine returnsInHanded_of_cond (C := Try.checked) (s := Rows.OpenSpec.upto Rows.workqueueInvariantSpec) (k := Rows.uptoSmall) rfl ownKnob_ok started (by kernel_rfl) Try.func4
    (OpenSpec.witness (enc := enc) (C := Try.checked) (s := Rows.OpenSpec.upto Rows.workqueueInvariantSpec) (k := Rows.uptoSmall) rfl false ⟨#[], #[.slice none 0 0], []⟩ 8 (by kernel_rfl) (by kernel_rfl) (by kernel_rfl)
      (x := ([.nil], [], [])) (by kernel_rfl) rfl (by kernel_rfl)) ?_
  intro W base args ds gs before hval hW _ hk _
  refine row_contract (f := 4) (fn := Try.f4) (s := Rows.workqueueInvariantSpec) (tb := 4) (by kernel_rfl) (by kernel_rfl) (by kernel_rfl) (by kernel_rfl) rfl (by kernel_rfl) Try.underlying4 (of_decide_eq_true (by kernel_rfl)) (fun H ds hd => ?_)
    (N := 1048576) (hrd := by rw [Try.params4]; exact WorkqueueInvariant_ra) (fun a ok wt => ?_) H enc Rows.uptoBulk bulkOk W base args ds gs before hval hW (bulkSmall hk)
  · rw [Try.params4] at hd
    match ds, hd with
    | [d0], _ => rfl
  · obtain ⟨x0, _⟩ := a
    obtain ⟨o0, _⟩ := ok
    exact F4_ok (hp x0 o0 wt)
theorem WorkqueueInvariant_over (hp : WorkqueueInvariant.Pure) : Rows.workqueueInvariantUptoRow.holds Try.pinned (Rows.OpenSpec.upto Rows.workqueueInvariantSpec) :=
  OpenClaim.holds_of_cond 4 Try.f4 rfl rfl rfl rfl rfl rfl rfl ⟨rfl, rfl, rfl, rfl, rfl⟩ rfl rfl rfl rfl rfl (by kernel_rfl) Try.func4 (by kernel_rfl)
    (of_decide_eq_true (by kernel_rfl)) (by unfold Func.isWrapper; first | (rw [if_pos (by decide +kernel)]; kernel_rfl) | (rw [if_neg (by decide +kernel)]; exact ⟨rfl, rfl⟩))
    (fun os started H enc _ F => WorkqueueInvariant_lifted hp os started H enc F)
end
section
open Go.ChangeShapes Go.WideShapes Go.ChangeAt Go.RowKit
theorem WorkqueueNoLoss_ra : ReadsAll Try.prog [22, 9] (α := (List Op) × ByteArray × Unit) (fun p => [.c (.d (.sl (p.1.map eOp))), .c (.d (.v (.string p.2.1)))]) (fun p => (okL okOp) p.1 ∧ okT p.2.1 ∧ True) (fun p => (wL wOp) p.1 + (wS p.2.1 + (0))) := (ra_cons (rv_cell (f := fun (a : (List Op)) => D.sl (a.map eOp)) (oc_slice Try.underlying22) (rd_slice (enc := eOp) (sz := 5) Try.underlying22 rd_Op (by kernel_rfl) (by decide) (fun _ => rfl))) (ra_cons (rv_cell (f := fun (a : ByteArray) => D.v (.string a)) (oc_str Try.underlying9) (rd_str Try.underlying9)) ra_nil))
set_option maxRecDepth 100000 in
theorem WorkqueueNoLoss_lifted (hp : WorkqueueNoLoss.Pure) (os : Os) (started : os.Started) (H : Type) (enc : TypeId × Value → H) (F : Stop.Interp) :
    ReturnsInHanded {} Try.checked os 5 .any ((Rows.OpenSpec.upto Rows.workqueueNoLossSpec).pre6 enc Try.prog Try.f5 Rows.workqueueNoLossUptoRow.domain false) (((Rows.OpenSpec.upto Rows.workqueueNoLossSpec).at F).post enc Try.prog Try.f5 false true false false) := by
  refine returnsInHanded_of_cond (C := Try.checked) (s := Rows.OpenSpec.upto Rows.workqueueNoLossSpec) (k := Rows.uptoSmall) rfl ownKnob_ok started (by kernel_rfl) Try.func5
    (OpenSpec.witness (enc := enc) (C := Try.checked) (s := Rows.OpenSpec.upto Rows.workqueueNoLossSpec) (k := Rows.uptoSmall) rfl false ⟨#[], #[.slice none 0 0, .string ⟨#[]⟩], []⟩ 8 (by kernel_rfl) (by kernel_rfl) (by kernel_rfl)
      (x := ([.nil, .lit (.string [])], [], [])) (by kernel_rfl) rfl (by kernel_rfl)) ?_
  intro W base args ds gs before hval hW _ hk _
  refine row_contract (f := 5) (fn := Try.f5) (s := Rows.workqueueNoLossSpec) (tb := 4) (by kernel_rfl) (by kernel_rfl) (by kernel_rfl) (by kernel_rfl) rfl (by kernel_rfl) Try.underlying4 (of_decide_eq_true (by kernel_rfl)) (fun H ds hd => ?_)
    (N := 1048576) (hrd := by rw [Try.params5]; exact WorkqueueNoLoss_ra) (fun a ok wt => ?_) H enc Rows.uptoBulk bulkOk W base args ds gs before hval hW (bulkSmall hk)
  · rw [Try.params5] at hd
    match ds, hd with
    | [d0, d1], _ => rfl
  · obtain ⟨x0, x1, _⟩ := a
    obtain ⟨o0, o1, _⟩ := ok
    exact F5_ok (hp x0 x1 o0 o1 wt)
theorem WorkqueueNoLoss_over (hp : WorkqueueNoLoss.Pure) : Rows.workqueueNoLossUptoRow.holds Try.pinned (Rows.OpenSpec.upto Rows.workqueueNoLossSpec) :=
  OpenClaim.holds_of_cond 5 Try.f5 rfl rfl rfl rfl rfl rfl rfl ⟨rfl, rfl, rfl, rfl, rfl⟩ rfl rfl rfl rfl rfl (by kernel_rfl) Try.func5 (by kernel_rfl)
    (of_decide_eq_true (by kernel_rfl)) (by unfold Func.isWrapper; first | (rw [if_pos (by decide +kernel)]; kernel_rfl) | (rw [if_neg (by decide +kernel)]; exact ⟨rfl, rfl⟩))
    (fun os started H enc _ F => WorkqueueNoLoss_lifted hp os started H enc F)
end
section
open Go.ChangeShapes Go.WideShapes Go.ChangeAt Go.RowKit
theorem WorkqueueOne_ra : ReadsAll Try.prog [22] (α := (List Op) × Unit) (fun p => [.c (.d (.sl (p.1.map eOp)))]) (fun p => (okL okOp) p.1 ∧ True) (fun p => (wL wOp) p.1 + (0)) := (ra_cons (rv_cell (f := fun (a : (List Op)) => D.sl (a.map eOp)) (oc_slice Try.underlying22) (rd_slice (enc := eOp) (sz := 5) Try.underlying22 rd_Op (by kernel_rfl) (by decide) (fun _ => rfl))) ra_nil)
set_option maxRecDepth 100000 in
theorem WorkqueueOne_lifted (hp : WorkqueueOne.Pure) (os : Os) (started : os.Started) (H : Type) (enc : TypeId × Value → H) (F : Stop.Interp) :
    ReturnsInHanded {} Try.checked os 6 .any ((Rows.OpenSpec.upto Rows.workqueueOneSpec).pre6 enc Try.prog Try.f6 Rows.workqueueOneUptoRow.domain false) (((Rows.OpenSpec.upto Rows.workqueueOneSpec).at F).post enc Try.prog Try.f6 false true false false) := by
  refine returnsInHanded_of_cond (C := Try.checked) (s := Rows.OpenSpec.upto Rows.workqueueOneSpec) (k := Rows.uptoSmall) rfl ownKnob_ok started (by kernel_rfl) Try.func6
    (OpenSpec.witness (enc := enc) (C := Try.checked) (s := Rows.OpenSpec.upto Rows.workqueueOneSpec) (k := Rows.uptoSmall) rfl false ⟨#[], #[.slice none 0 0], []⟩ 8 (by kernel_rfl) (by kernel_rfl) (by kernel_rfl)
      (x := ([.nil], [], [])) (by kernel_rfl) rfl (by kernel_rfl)) ?_
  intro W base args ds gs before hval hW _ hk _
  refine row_contract (f := 6) (fn := Try.f6) (s := Rows.workqueueOneSpec) (tb := 4) (by kernel_rfl) (by kernel_rfl) (by kernel_rfl) (by kernel_rfl) rfl (by kernel_rfl) Try.underlying4 (of_decide_eq_true (by kernel_rfl)) (fun H ds hd => ?_)
    (N := 1048576) (hrd := by rw [Try.params6]; exact WorkqueueOne_ra) (fun a ok wt => ?_) H enc Rows.uptoBulk bulkOk W base args ds gs before hval hW (bulkSmall hk)
  · rw [Try.params6] at hd
    match ds, hd with
    | [d0], _ => rfl
  · obtain ⟨x0, _⟩ := a
    obtain ⟨o0, _⟩ := ok
    exact F6_ok (hp x0 o0 wt)
theorem WorkqueueOne_over (hp : WorkqueueOne.Pure) : Rows.workqueueOneUptoRow.holds Try.pinned (Rows.OpenSpec.upto Rows.workqueueOneSpec) :=
  OpenClaim.holds_of_cond 6 Try.f6 rfl rfl rfl rfl rfl rfl rfl ⟨rfl, rfl, rfl, rfl, rfl⟩ rfl rfl rfl rfl rfl (by kernel_rfl) Try.func6 (by kernel_rfl)
    (of_decide_eq_true (by kernel_rfl)) (by unfold Func.isWrapper; first | (rw [if_pos (by decide +kernel)]; kernel_rfl) | (rw [if_neg (by decide +kernel)]; exact ⟨rfl, rfl⟩))
    (fun os started H enc _ F => WorkqueueOne_lifted hp os started H enc F)
end
end Go.Proofs.Ytpgonamdmlgifaa
