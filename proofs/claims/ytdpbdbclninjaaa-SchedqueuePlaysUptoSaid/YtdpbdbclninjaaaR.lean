/- The laws' rows over their plain laws. -/
import Derived.Test.YtdpbdbclninjaaaP
import Derived.Test.YtdpbdbclninjaaaFF
import Derived.Test.YtdpbdbclninjaaaRows
set_option linter.unusedVariables false
set_option linter.unusedSimpArgs false
namespace Go.Proofs.Ytdpbdbclninjaaa
open Go Go.Fw
set_option maxRecDepth 100000
theorem ownKnob_ok : ownKnob Try.prog.godebug = none := by kernel_rfl
theorem bulkAll_sum {H : Type} : ∀ l : List (DataW H), Rows.uptoBulkAll l = (l.map Rows.uptoBulk).sum
  | [] => rfl
  | d :: l => by simp only [Rows.uptoBulkAll, List.map_cons, List.sum_cons, bulkAll_sum l]
theorem bulkOk {H : Type} : BulkOk (Rows.uptoBulk (H := H)) := by
  refine ⟨fun b => by simp [Rows.uptoBulk], fun d => ?_, fun xs ys => ?_, fun xs => ?_⟩
  · cases d with
    | lit l => cases l <;> simp [Rows.uptoBulk]
    | nil => simp [Rows.uptoBulk]
    | ptr d => simp [Rows.uptoBulk]
    | slice elems spare => simp [Rows.uptoBulk]
    | agg parts => simp [Rows.uptoBulk]
    | iface t d => simp [Rows.uptoBulk]
    | map entries => simp [Rows.uptoBulk]
    | held h => simp [Rows.uptoBulk]
  · simp only [Rows.uptoBulk, bulkAll_sum]; omega
  · simp only [Rows.uptoBulk, bulkAll_sum]; omega
theorem bulkSmall {H : Type} {l : List (DataW H)} (hk : Rows.uptoSmall H l = true) : (l.map Rows.uptoBulk).sum ≤ 1048576 := by
  have h := of_decide_eq_true hk
  rwa [bulkAll_sum] at h
section
open Go.ChangeShapes Go.WideShapes Go.ChangeAt Go.RowKit
theorem rd_Act : Reads Try.prog 30 eAct okAct wAct := rd_struct (β := Int × ByteArray × Int × Int × Unit) Try.underlying30 (by kernel_rfl) (rdF_cons (n := 1) (rd_u8 Try.underlying5) (by kernel_rfl) rfl (rdF_cons (n := 1) (rd_str Try.underlying9) (by kernel_rfl) rfl (rdF_cons (n := 1) (rd_int Try.underlying3) (by kernel_rfl) rfl (rdF_cons (n := 1) (rd_int Try.underlying3) (by kernel_rfl) rfl rdF_nil)))) (fun p => ⟨p.1, p.2.1, p.2.2.1, p.2.2.2.1⟩) (by intro _; rfl) (by intro _ h; exact h) (by intro _; rfl)
theorem SchedqueuePlays_ra : ReadsAll Try.prog [22] (α := (List Act) × Unit) (fun p => [.c (.d (.sl (p.1.map eAct)))]) (fun p => (okL okAct) p.1 ∧ True) (fun p => (wL wAct) p.1 + (0)) := (ra_cons (rv_cell (f := fun (a : (List Act)) => D.sl (a.map eAct)) (oc_slice Try.underlying22) (rd_slice (enc := eAct) (sz := 4) Try.underlying22 rd_Act (by kernel_rfl) (by decide) (fun _ => rfl))) ra_nil)
set_option maxRecDepth 100000 in
theorem SchedqueuePlays_lifted (hp : SchedqueuePlays.Pure) (os : Os) (started : os.Started) (H : Type) (enc : TypeId × Value → H) (F : Stop.Interp) :
    ReturnsInHanded {} Try.checked os 3 .any ((Rows.OpenSpec.upto Rows.schedqueuePlaysSpec).pre6 enc Try.prog Try.f3 Rows.schedqueuePlaysUptoRow.domain false) (((Rows.OpenSpec.upto Rows.schedqueuePlaysSpec).at F).post enc Try.prog Try.f3 false true false false) := by
  refine returnsInHanded_of_cond (C := Try.checked) (s := Rows.OpenSpec.upto Rows.schedqueuePlaysSpec) (k := Rows.uptoSmall) rfl ownKnob_ok started (by kernel_rfl) Try.func3
    (OpenSpec.witness (enc := enc) (C := Try.checked) (s := Rows.OpenSpec.upto Rows.schedqueuePlaysSpec) (k := Rows.uptoSmall) rfl false ⟨#[], #[.slice none 0 0], []⟩ 8 (by kernel_rfl) (by kernel_rfl) (by kernel_rfl)
      (x := ([.nil], [], [])) (by kernel_rfl) rfl (by kernel_rfl)) ?_
  intro W base args ds gs before hval hW _ hk _
  refine row_contract (f := 3) (fn := Try.f3) (s := Rows.schedqueuePlaysSpec) (tb := 4) (by kernel_rfl) (by kernel_rfl) (by kernel_rfl) (by kernel_rfl) rfl (by kernel_rfl) Try.underlying4 (of_decide_eq_true (by kernel_rfl)) (fun H ds hd => ?_)
    (N := 1048576) (hrd := by rw [Try.params3]; exact SchedqueuePlays_ra) (fun a ok wt => ?_) H enc Rows.uptoBulk bulkOk W base args ds gs before hval hW (bulkSmall hk)
  · rw [Try.params3] at hd
    match ds, hd with
    | [d0], _ => rfl
  · obtain ⟨x0, _⟩ := a
    obtain ⟨o0, _⟩ := ok
    exact F3_ok (hp x0 o0 wt)
theorem SchedqueuePlays_over (hp : SchedqueuePlays.Pure) : Rows.schedqueuePlaysUptoRow.holds Try.pinned (Rows.OpenSpec.upto Rows.schedqueuePlaysSpec) :=
  OpenClaim.holds_of_cond 3 Try.f3 rfl rfl rfl rfl rfl rfl rfl ⟨rfl, rfl, rfl, rfl, rfl⟩ rfl rfl rfl rfl rfl (by kernel_rfl) Try.func3 (by kernel_rfl)
    (of_decide_eq_true (by kernel_rfl)) (by unfold Func.isWrapper; first | (rw [if_pos (by decide +kernel)]; kernel_rfl) | (rw [if_neg (by decide +kernel)]; exact ⟨rfl, rfl⟩))
    (fun os started H enc _ F => SchedqueuePlays_lifted hp os started H enc F)
end
section
open Go.ChangeShapes Go.WideShapes Go.ChangeAt Go.RowKit
theorem SchedqueueOnce_ra : ReadsAll Try.prog [22, 9] (α := (List Act) × ByteArray × Unit) (fun p => [.c (.d (.sl (p.1.map eAct))), .c (.d (.v (.string p.2.1)))]) (fun p => (okL okAct) p.1 ∧ okT p.2.1 ∧ True) (fun p => (wL wAct) p.1 + (wS p.2.1 + (0))) := (ra_cons (rv_cell (f := fun (a : (List Act)) => D.sl (a.map eAct)) (oc_slice Try.underlying22) (rd_slice (enc := eAct) (sz := 4) Try.underlying22 rd_Act (by kernel_rfl) (by decide) (fun _ => rfl))) (ra_cons (rv_cell (f := fun (a : ByteArray) => D.v (.string a)) (oc_str Try.underlying9) (rd_str Try.underlying9)) ra_nil))
set_option maxRecDepth 100000 in
theorem SchedqueueOnce_lifted (hp : SchedqueueOnce.Pure) (os : Os) (started : os.Started) (H : Type) (enc : TypeId × Value → H) (F : Stop.Interp) :
    ReturnsInHanded {} Try.checked os 4 .any ((Rows.OpenSpec.upto Rows.schedqueueOnceSpec).pre6 enc Try.prog Try.f4 Rows.schedqueueOnceUptoRow.domain false) (((Rows.OpenSpec.upto Rows.schedqueueOnceSpec).at F).post enc Try.prog Try.f4 false true false false) := by
  refine returnsInHanded_of_cond (C := Try.checked) (s := Rows.OpenSpec.upto Rows.schedqueueOnceSpec) (k := Rows.uptoSmall) rfl ownKnob_ok started (by kernel_rfl) Try.func4
    (OpenSpec.witness (enc := enc) (C := Try.checked) (s := Rows.OpenSpec.upto Rows.schedqueueOnceSpec) (k := Rows.uptoSmall) rfl false ⟨#[], #[.slice none 0 0, .string ⟨#[]⟩], []⟩ 8 (by kernel_rfl) (by kernel_rfl) (by kernel_rfl)
      (x := ([.nil, .lit (.string [])], [], [])) (by kernel_rfl) rfl (by kernel_rfl)) ?_
  intro W base args ds gs before hval hW _ hk _
  refine row_contract (f := 4) (fn := Try.f4) (s := Rows.schedqueueOnceSpec) (tb := 4) (by kernel_rfl) (by kernel_rfl) (by kernel_rfl) (by kernel_rfl) rfl (by kernel_rfl) Try.underlying4 (of_decide_eq_true (by kernel_rfl)) (fun H ds hd => ?_)
    (N := 1048576) (hrd := by rw [Try.params4]; exact SchedqueueOnce_ra) (fun a ok wt => ?_) H enc Rows.uptoBulk bulkOk W base args ds gs before hval hW (bulkSmall hk)
  · rw [Try.params4] at hd
    match ds, hd with
    | [d0, d1], _ => rfl
  · obtain ⟨x0, x1, _⟩ := a
    obtain ⟨o0, o1, _⟩ := ok
    exact F4_ok (hp x0 x1 o0 o1 wt)
theorem SchedqueueOnce_over (hp : SchedqueueOnce.Pure) : Rows.schedqueueOnceUptoRow.holds Try.pinned (Rows.OpenSpec.upto Rows.schedqueueOnceSpec) :=
  OpenClaim.holds_of_cond 4 Try.f4 rfl rfl rfl rfl rfl rfl rfl ⟨rfl, rfl, rfl, rfl, rfl⟩ rfl rfl rfl rfl rfl (by kernel_rfl) Try.func4 (by kernel_rfl)
    (of_decide_eq_true (by kernel_rfl)) (by unfold Func.isWrapper; first | (rw [if_pos (by decide +kernel)]; kernel_rfl) | (rw [if_neg (by decide +kernel)]; exact ⟨rfl, rfl⟩))
    (fun os started H enc _ F => SchedqueueOnce_lifted hp os started H enc F)
end
section
open Go.ChangeShapes Go.WideShapes Go.ChangeAt Go.RowKit
theorem SchedqueueFair_ra : ReadsAll Try.prog [22] (α := (List Act) × Unit) (fun p => [.c (.d (.sl (p.1.map eAct)))]) (fun p => (okL okAct) p.1 ∧ True) (fun p => (wL wAct) p.1 + (0)) := (ra_cons (rv_cell (f := fun (a : (List Act)) => D.sl (a.map eAct)) (oc_slice Try.underlying22) (rd_slice (enc := eAct) (sz := 4) Try.underlying22 rd_Act (by kernel_rfl) (by decide) (fun _ => rfl))) ra_nil)
set_option maxRecDepth 100000 in
theorem SchedqueueFair_lifted (hp : SchedqueueFair.Pure) (os : Os) (started : os.Started) (H : Type) (enc : TypeId × Value → H) (F : Stop.Interp) :
    ReturnsInHanded {} Try.checked os 5 .any ((Rows.OpenSpec.upto Rows.schedqueueFairSpec).pre6 enc Try.prog Try.f5 Rows.schedqueueFairUptoRow.domain false) (((Rows.OpenSpec.upto Rows.schedqueueFairSpec).at F).post enc Try.prog Try.f5 false true false false) := by
  refine returnsInHanded_of_cond (C := Try.checked) (s := Rows.OpenSpec.upto Rows.schedqueueFairSpec) (k := Rows.uptoSmall) rfl ownKnob_ok started (by kernel_rfl) Try.func5
    (OpenSpec.witness (enc := enc) (C := Try.checked) (s := Rows.OpenSpec.upto Rows.schedqueueFairSpec) (k := Rows.uptoSmall) rfl false ⟨#[], #[.slice none 0 0], []⟩ 8 (by kernel_rfl) (by kernel_rfl) (by kernel_rfl)
      (x := ([.nil], [], [])) (by kernel_rfl) rfl (by kernel_rfl)) ?_
  intro W base args ds gs before hval hW _ hk _
  refine row_contract (f := 5) (fn := Try.f5) (s := Rows.schedqueueFairSpec) (tb := 4) (by kernel_rfl) (by kernel_rfl) (by kernel_rfl) (by kernel_rfl) rfl (by kernel_rfl) Try.underlying4 (of_decide_eq_true (by kernel_rfl)) (fun H ds hd => ?_)
    (N := 1048576) (hrd := by rw [Try.params5]; exact SchedqueueFair_ra) (fun a ok wt => ?_) H enc Rows.uptoBulk bulkOk W base args ds gs before hval hW (bulkSmall hk)
  · rw [Try.params5] at hd
    match ds, hd with
    | [d0], _ => rfl
  · obtain ⟨x0, _⟩ := a
    obtain ⟨o0, _⟩ := ok
    exact F5_ok (hp x0 o0 wt)
theorem SchedqueueFair_over (hp : SchedqueueFair.Pure) : Rows.schedqueueFairUptoRow.holds Try.pinned (Rows.OpenSpec.upto Rows.schedqueueFairSpec) :=
  OpenClaim.holds_of_cond 5 Try.f5 rfl rfl rfl rfl rfl rfl rfl ⟨rfl, rfl, rfl, rfl, rfl⟩ rfl rfl rfl rfl rfl (by kernel_rfl) Try.func5 (by kernel_rfl)
    (of_decide_eq_true (by kernel_rfl)) (by unfold Func.isWrapper; first | (rw [if_pos (by decide +kernel)]; kernel_rfl) | (rw [if_neg (by decide +kernel)]; exact ⟨rfl, rfl⟩))
    (fun os started H enc _ F => SchedqueueFair_lifted hp os started H enc F)
end
section
open Go.ChangeShapes Go.WideShapes Go.ChangeAt Go.RowKit
theorem SchedqueueWaits_ra : ReadsAll Try.prog [22, 9, 3, 3] (α := (List Act) × ByteArray × Int × Int × Unit) (fun p => [.c (.d (.sl (p.1.map eAct))), .c (.d (.v (.string p.2.1))), .c (.d (.v (.int .i64 p.2.2.1))), .c (.d (.v (.int .i64 p.2.2.2.1)))]) (fun p => (okL okAct) p.1 ∧ okT p.2.1 ∧ okN p.2.2.1 ∧ okN p.2.2.2.1 ∧ True) (fun p => (wL wAct) p.1 + (wS p.2.1 + (wN p.2.2.1 + (wN p.2.2.2.1 + (0))))) := (ra_cons (rv_cell (f := fun (a : (List Act)) => D.sl (a.map eAct)) (oc_slice Try.underlying22) (rd_slice (enc := eAct) (sz := 4) Try.underlying22 rd_Act (by kernel_rfl) (by decide) (fun _ => rfl))) (ra_cons (rv_cell (f := fun (a : ByteArray) => D.v (.string a)) (oc_str Try.underlying9) (rd_str Try.underlying9)) (ra_cons (rv_cell (f := fun (a : Int) => D.v (.int .i64 a)) (oc_int Try.underlying3) (rd_int Try.underlying3)) (ra_cons (rv_cell (f := fun (a : Int) => D.v (.int .i64 a)) (oc_int Try.underlying3) (rd_int Try.underlying3)) ra_nil))))
set_option maxRecDepth 100000 in
theorem SchedqueueWaits_lifted (hp : SchedqueueWaits.Pure) (os : Os) (started : os.Started) (H : Type) (enc : TypeId × Value → H) (F : Stop.Interp) :
    ReturnsInHanded {} Try.checked os 6 .any ((Rows.OpenSpec.upto Rows.schedqueueWaitsSpec).pre6 enc Try.prog Try.f6 Rows.schedqueueWaitsUptoRow.domain false) (((Rows.OpenSpec.upto Rows.schedqueueWaitsSpec).at F).post enc Try.prog Try.f6 false true false false) := by
  refine returnsInHanded_of_cond (C := Try.checked) (s := Rows.OpenSpec.upto Rows.schedqueueWaitsSpec) (k := Rows.uptoSmall) rfl ownKnob_ok started (by kernel_rfl) Try.func6
    (OpenSpec.witness (enc := enc) (C := Try.checked) (s := Rows.OpenSpec.upto Rows.schedqueueWaitsSpec) (k := Rows.uptoSmall) rfl false ⟨#[], #[.slice none 0 0, .string ⟨#[]⟩, .int .i64 0, .int .i64 0], []⟩ 8 (by kernel_rfl) (by kernel_rfl) (by kernel_rfl)
      (x := ([.nil, .lit (.string []), .lit (.int .i64 0), .lit (.int .i64 0)], [], [])) (by kernel_rfl) rfl (by kernel_rfl)) ?_
  intro W base args ds gs before hval hW _ hk _
  refine row_contract (f := 6) (fn := Try.f6) (s := Rows.schedqueueWaitsSpec) (tb := 4) (by kernel_rfl) (by kernel_rfl) (by kernel_rfl) (by kernel_rfl) rfl (by kernel_rfl) Try.underlying4 (of_decide_eq_true (by kernel_rfl)) (fun H ds hd => ?_)
    (N := 1048576) (hrd := by rw [Try.params6]; exact SchedqueueWaits_ra) (fun a ok wt => ?_) H enc Rows.uptoBulk bulkOk W base args ds gs before hval hW (bulkSmall hk)
  · rw [Try.params6] at hd
    match ds, hd with
    | [d0, d1, d2, d3], _ => rfl
  · obtain ⟨x0, x1, x2, x3, _⟩ := a
    obtain ⟨o0, o1, o2, o3, _⟩ := ok
    exact F6_ok (hp x0 x1 x2 x3 o0 o1 o2 o3 wt)
theorem SchedqueueWaits_over (hp : SchedqueueWaits.Pure) : Rows.schedqueueWaitsUptoRow.holds Try.pinned (Rows.OpenSpec.upto Rows.schedqueueWaitsSpec) :=
  OpenClaim.holds_of_cond 6 Try.f6 rfl rfl rfl rfl rfl rfl rfl ⟨rfl, rfl, rfl, rfl, rfl⟩ rfl rfl rfl rfl rfl (by kernel_rfl) Try.func6 (by kernel_rfl)
    (of_decide_eq_true (by kernel_rfl)) (by unfold Func.isWrapper; first | (rw [if_pos (by decide +kernel)]; kernel_rfl) | (rw [if_neg (by decide +kernel)]; exact ⟨rfl, rfl⟩))
    (fun os started H enc _ F => SchedqueueWaits_lifted hp os started H enc F)
end
end Go.Proofs.Ytdpbdbclninjaaa
