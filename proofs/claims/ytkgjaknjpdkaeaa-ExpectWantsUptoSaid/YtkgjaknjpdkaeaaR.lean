/- The laws' rows over their plain laws. -/
import Derived.Test.YtkgjaknjpdkaeaaP
import Derived.Test.YtkgjaknjpdkaeaaFF
import Derived.Test.YtkgjaknjpdkaeaaRows
set_option linter.unusedVariables false
set_option linter.unusedSimpArgs false
namespace Go.Proofs.Ytkgjaknjpdkaeaa
open Go Go.Fw
set_option maxRecDepth 100000
theorem ownKnob_ok : ownKnob Try.prog.godebug = none := by kernel_rfl
theorem bulkAll_sum {H : Type} : ∀ l : List (DataW H), Rows.uptoBulkAll l = (l.map Rows.uptoBulk).sum
  | [] => rfl
  | d :: l => by simp only [Rows.uptoBulkAll, List.map_cons, List.sum_cons, bulkAll_sum l]
theorem bulkOk {H : Type} : BulkOk (Rows.uptoBulk (H := H)) := by
  refine ⟨fun b => by simp [Rows.uptoBulk], fun d => ?_, fun xs ys => ?_, fun xs => ?_⟩
  · cases d with
    | lit l => cases l <;> simp [Rows.uptoBulk]
    | nil => simp [Rows.uptoBulk]
    | ptr d => simp [Rows.uptoBulk]
    | slice elems spare => simp [Rows.uptoBulk]
    | agg parts => simp [Rows.uptoBulk]
    | iface t d => simp [Rows.uptoBulk]
    | map entries => simp [Rows.uptoBulk]
    | held h => simp [Rows.uptoBulk]
  · simp only [Rows.uptoBulk, bulkAll_sum]; omega
  · simp only [Rows.uptoBulk, bulkAll_sum]; omega
theorem bulkSmall {H : Type} {l : List (DataW H)} (hk : Rows.uptoSmall H l = true) : (l.map Rows.uptoBulk).sum ≤ 1048576 := by
  have h := of_decide_eq_true hk
  rwa [bulkAll_sum] at h
section
open Go.ChangeShapes Go.WideShapes Go.ChangeAt Go.RowKit
theorem rd_Expectation : Reads Try.prog 39 eExpectation okExpectation wExpectation := rd_struct (β := ByteArray × Int × (List ByteArray) × Int × Unit) Try.underlying39 (by kernel_rfl) (rdF_cons (n := 1) (rd_str Try.underlying9) (by kernel_rfl) rfl (rdF_cons (n := 1) (rd_int Try.underlying3) (by kernel_rfl) rfl (rdF_cons (n := 1) (rd_slice (enc := eS) (sz := 1) Try.underlying23 (rd_str Try.underlying9) (by kernel_rfl) (by decide) (fun _ => rfl)) (by kernel_rfl) rfl (rdF_cons (n := 1) (rd_int Try.underlying3) (by kernel_rfl) rfl rdF_nil)))) (fun p => ⟨p.1, p.2.1, p.2.2.1, p.2.2.2.1⟩) (by intro _; rfl) (by intro _ h; exact h) (by intro _; rfl)
theorem ExpectWants_ra : ReadsAll Try.prog [22, 9, 3, 23, 3] (α := (List Expectation) × ByteArray × Int × (List ByteArray) × Int × Unit) (fun p => [.c (.d (.sl (p.1.map eExpectation))), .c (.d (.v (.string p.2.1))), .c (.d (.v (.int .i64 p.2.2.1))), .c (.d (.sl (p.2.2.2.1.map eS))), .c (.d (.v (.int .i64 p.2.2.2.2.1)))]) (fun p => (okL okExpectation) p.1 ∧ okT p.2.1 ∧ okN p.2.2.1 ∧ (okL okT) p.2.2.2.1 ∧ okN p.2.2.2.2.1 ∧ True) (fun p => (wL wExpectation) p.1 + (wS p.2.1 + (wN p.2.2.1 + ((wL wS) p.2.2.2.1 + (wN p.2.2.2.2.1 + (0)))))) := (ra_cons (rv_cell (f := fun (a : (List Expectation)) => D.sl (a.map eExpectation)) (oc_slice Try.underlying22) (rd_slice (enc := eExpectation) (sz := 4) Try.underlying22 rd_Expectation (by kernel_rfl) (by decide) (fun _ => rfl))) (ra_cons (rv_cell (f := fun (a : ByteArray) => D.v (.string a)) (oc_str Try.underlying9) (rd_str Try.underlying9)) (ra_cons (rv_cell (f := fun (a : Int) => D.v (.int .i64 a)) (oc_int Try.underlying3) (rd_int Try.underlying3)) (ra_cons (rv_cell (f := fun (a : (List ByteArray)) => D.sl (a.map eS)) (oc_slice Try.underlying23) (rd_slice (enc := eS) (sz := 1) Try.underlying23 (rd_str Try.underlying9) (by kernel_rfl) (by decide) (fun _ => rfl))) (ra_cons (rv_cell (f := fun (a : Int) => D.v (.int .i64 a)) (oc_int Try.underlying3) (rd_int Try.underlying3)) ra_nil)))))
set_option maxRecDepth 100000 in
theorem ExpectWants_lifted (hp : ExpectWants.Pure) (os : Os) (started : os.Started) (H : Type) (enc : TypeId × Value → H) (F : Stop.Interp) :
    ReturnsInHanded {} Try.checked os 3 .any ((Rows.OpenSpec.upto Rows.expectWantsSpec).pre6 enc Try.prog Try.f3 Rows.expectWantsUptoRow.domain false) (((Rows.OpenSpec.upto Rows.expectWantsSpec).at F).post enc Try.prog Try.f3 false true false false) := by
  refine returnsInHanded_of_cond (C := Try.checked) (s := Rows.OpenSpec.upto Rows.expectWantsSpec) (k := Rows.uptoSmall) rfl ownKnob_ok started (by kernel_rfl) Try.func3
    (OpenSpec.witness (enc := enc) (C := Try.checked) (s := Rows.OpenSpec.upto Rows.expectWantsSpec) (k := Rows.uptoSmall) rfl false ⟨#[], #[.slice none 0 0, .string ⟨#[]⟩, .int .i64 0, .slice none 0 0, .int .i64 0], []⟩ 8 (by kernel_rfl) (by kernel_rfl) (by kernel_rfl)
      (x := ([.nil, .lit (.string []), .lit (.int .i64 0), .nil, .lit (.int .i64 0)], [], [])) (by kernel_rfl) rfl (by kernel_rfl)) ?_
  intro W base args ds gs before hval hW _ hk _
  refine row_contract (f := 3) (fn := Try.f3) (s := Rows.expectWantsSpec) (tb := 4) (by kernel_rfl) (by kernel_rfl) (by kernel_rfl) (by kernel_rfl) rfl (by kernel_rfl) Try.underlying4 (of_decide_eq_true (by kernel_rfl)) (fun H ds hd => ?_)
    (N := 1048576) (hrd := by rw [Try.params3]; exact ExpectWants_ra) (fun a ok wt => ?_) H enc Rows.uptoBulk bulkOk W base args ds gs before hval hW (bulkSmall hk)
  · rw [Try.params3] at hd
    match ds, hd with
    | [d0, d1, d2, d3, d4], _ => rfl
  · obtain ⟨x0, x1, x2, x3, x4, _⟩ := a
    obtain ⟨o0, o1, o2, o3, o4, _⟩ := ok
    exact F3_ok (hp x0 x1 x2 x3 x4 o0 o1 o2 o3 o4 wt)
theorem ExpectWants_over (hp : ExpectWants.Pure) : Rows.expectWantsUptoRow.holds Try.pinned (Rows.OpenSpec.upto Rows.expectWantsSpec) :=
  OpenClaim.holds_of_cond 3 Try.f3 rfl rfl rfl rfl rfl rfl rfl ⟨rfl, rfl, rfl, rfl, rfl⟩ rfl rfl rfl rfl rfl (by kernel_rfl) Try.func3 (by kernel_rfl)
    (of_decide_eq_true (by kernel_rfl)) (by unfold Func.isWrapper; first | (rw [if_pos (by decide +kernel)]; kernel_rfl) | (rw [if_neg (by decide +kernel)]; exact ⟨rfl, rfl⟩))
    (fun os started H enc _ F => ExpectWants_lifted hp os started H enc F)
end
section
open Go.ChangeShapes Go.WideShapes Go.ChangeAt Go.RowKit
theorem ExpectSees_ra : ReadsAll Try.prog [22, 9, 9, 3, 3] (α := (List Expectation) × ByteArray × ByteArray × Int × Int × Unit) (fun p => [.c (.d (.sl (p.1.map eExpectation))), .c (.d (.v (.string p.2.1))), .c (.d (.v (.string p.2.2.1))), .c (.d (.v (.int .i64 p.2.2.2.1))), .c (.d (.v (.int .i64 p.2.2.2.2.1)))]) (fun p => (okL okExpectation) p.1 ∧ okT p.2.1 ∧ okT p.2.2.1 ∧ okN p.2.2.2.1 ∧ okN p.2.2.2.2.1 ∧ True) (fun p => (wL wExpectation) p.1 + (wS p.2.1 + (wS p.2.2.1 + (wN p.2.2.2.1 + (wN p.2.2.2.2.1 + (0)))))) := (ra_cons (rv_cell (f := fun (a : (List Expectation)) => D.sl (a.map eExpectation)) (oc_slice Try.underlying22) (rd_slice (enc := eExpectation) (sz := 4) Try.underlying22 rd_Expectation (by kernel_rfl) (by decide) (fun _ => rfl))) (ra_cons (rv_cell (f := fun (a : ByteArray) => D.v (.string a)) (oc_str Try.underlying9) (rd_str Try.underlying9)) (ra_cons (rv_cell (f := fun (a : ByteArray) => D.v (.string a)) (oc_str Try.underlying9) (rd_str Try.underlying9)) (ra_cons (rv_cell (f := fun (a : Int) => D.v (.int .i64 a)) (oc_int Try.underlying3) (rd_int Try.underlying3)) (ra_cons (rv_cell (f := fun (a : Int) => D.v (.int .i64 a)) (oc_int Try.underlying3) (rd_int Try.underlying3)) ra_nil)))))
set_option maxRecDepth 100000 in
theorem ExpectSees_lifted (hp : ExpectSees.Pure) (os : Os) (started : os.Started) (H : Type) (enc : TypeId × Value → H) (F : Stop.Interp) :
    ReturnsInHanded {} Try.checked os 4 .any ((Rows.OpenSpec.upto Rows.expectSeesSpec).pre6 enc Try.prog Try.f4 Rows.expectSeesUptoRow.domain false) (((Rows.OpenSpec.upto Rows.expectSeesSpec).at F).post enc Try.prog Try.f4 false true false false) := by
  refine returnsInHanded_of_cond (C := Try.checked) (s := Rows.OpenSpec.upto Rows.expectSeesSpec) (k := Rows.uptoSmall) rfl ownKnob_ok started (by kernel_rfl) Try.func4
    (OpenSpec.witness (enc := enc) (C := Try.checked) (s := Rows.OpenSpec.upto Rows.expectSeesSpec) (k := Rows.uptoSmall) rfl false ⟨#[], #[.slice none 0 0, .string ⟨#[]⟩, .string ⟨#[]⟩, .int .i64 0, .int .i64 0], []⟩ 8 (by kernel_rfl) (by kernel_rfl) (by kernel_rfl)
      (x := ([.nil, .lit (.string []), .lit (.string []), .lit (.int .i64 0), .lit (.int .i64 0)], [], [])) (by kernel_rfl) rfl (by kernel_rfl)) ?_
  intro W base args ds gs before hval hW _ hk _
  refine row_contract (f := 4) (fn := Try.f4) (s := Rows.expectSeesSpec) (tb := 4) (by kernel_rfl) (by kernel_rfl) (by kernel_rfl) (by kernel_rfl) rfl (by kernel_rfl) Try.underlying4 (of_decide_eq_true (by kernel_rfl)) (fun H ds hd => ?_)
    (N := 1048576) (hrd := by rw [Try.params4]; exact ExpectSees_ra) (fun a ok wt => ?_) H enc Rows.uptoBulk bulkOk W base args ds gs before hval hW (bulkSmall hk)
  · rw [Try.params4] at hd
    match ds, hd with
    | [d0, d1, d2, d3, d4], _ => rfl
  · obtain ⟨x0, x1, x2, x3, x4, _⟩ := a
    obtain ⟨o0, o1, o2, o3, o4, _⟩ := ok
    exact F4_ok (hp x0 x1 x2 x3 x4 o0 o1 o2 o3 o4 wt)
theorem ExpectSees_over (hp : ExpectSees.Pure) : Rows.expectSeesUptoRow.holds Try.pinned (Rows.OpenSpec.upto Rows.expectSeesSpec) :=
  OpenClaim.holds_of_cond 4 Try.f4 rfl rfl rfl rfl rfl rfl rfl ⟨rfl, rfl, rfl, rfl, rfl⟩ rfl rfl rfl rfl rfl (by kernel_rfl) Try.func4 (by kernel_rfl)
    (of_decide_eq_true (by kernel_rfl)) (by unfold Func.isWrapper; first | (rw [if_pos (by decide +kernel)]; kernel_rfl) | (rw [if_neg (by decide +kernel)]; exact ⟨rfl, rfl⟩))
    (fun os started H enc _ F => ExpectSees_lifted hp os started H enc F)
end
section
open Go.ChangeShapes Go.WideShapes Go.ChangeAt Go.RowKit
theorem ExpectSettles_ra : ReadsAll Try.prog [22, 9, 23, 33, 3] (α := (List Expectation) × ByteArray × (List ByteArray) × (List Bool) × Int × Unit) (fun p => [.c (.d (.sl (p.1.map eExpectation))), .c (.d (.v (.string p.2.1))), .c (.d (.sl (p.2.2.1.map eS))), .c (.d (.sl (p.2.2.2.1.map eB))), .c (.d (.v (.int .i64 p.2.2.2.2.1)))]) (fun p => (okL okExpectation) p.1 ∧ okT p.2.1 ∧ (okL okT) p.2.2.1 ∧ (okL okT) p.2.2.2.1 ∧ okN p.2.2.2.2.1 ∧ True) (fun p => (wL wExpectation) p.1 + (wS p.2.1 + ((wL wS) p.2.2.1 + ((wL wN) p.2.2.2.1 + (wN p.2.2.2.2.1 + (0)))))) := (ra_cons (rv_cell (f := fun (a : (List Expectation)) => D.sl (a.map eExpectation)) (oc_slice Try.underlying22) (rd_slice (enc := eExpectation) (sz := 4) Try.underlying22 rd_Expectation (by kernel_rfl) (by decide) (fun _ => rfl))) (ra_cons (rv_cell (f := fun (a : ByteArray) => D.v (.string a)) (oc_str Try.underlying9) (rd_str Try.underlying9)) (ra_cons (rv_cell (f := fun (a : (List ByteArray)) => D.sl (a.map eS)) (oc_slice Try.underlying23) (rd_slice (enc := eS) (sz := 1) Try.underlying23 (rd_str Try.underlying9) (by kernel_rfl) (by decide) (fun _ => rfl))) (ra_cons (rv_cell (f := fun (a : (List Bool)) => D.sl (a.map eB)) (oc_slice Try.underlying33) (rd_slice (enc := eB) (sz := 1) Try.underlying33 (rd_bool Try.underlying4) (by kernel_rfl) (by decide) (fun _ => rfl))) (ra_cons (rv_cell (f := fun (a : Int) => D.v (.int .i64 a)) (oc_int Try.underlying3) (rd_int Try.underlying3)) ra_nil)))))
set_option maxRecDepth 100000 in
theorem ExpectSettles_lifted (hp : ExpectSettles.Pure) (os : Os) (started : os.Started) (H : Type) (enc : TypeId × Value → H) (F : Stop.Interp) :
    ReturnsInHanded {} Try.checked os 5 .any ((Rows.OpenSpec.upto Rows.expectSettlesSpec).pre6 enc Try.prog Try.f5 Rows.expectSettlesUptoRow.domain false) (((Rows.OpenSpec.upto Rows.expectSettlesSpec).at F).post enc Try.prog Try.f5 false true false false) := by
  refine returnsInHanded_of_cond (C := Try.checked) (s := Rows.OpenSpec.upto Rows.expectSettlesSpec) (k := Rows.uptoSmall) rfl ownKnob_ok started (by kernel_rfl) Try.func5
    (OpenSpec.witness (enc := enc) (C := Try.checked) (s := Rows.OpenSpec.upto Rows.expectSettlesSpec) (k := Rows.uptoSmall) rfl false ⟨#[], #[.slice none 0 0, .string ⟨#[]⟩, .slice none 0 0, .slice none 0 0, .int .i64 0], []⟩ 8 (by kernel_rfl) (by kernel_rfl) (by kernel_rfl)
      (x := ([.nil, .lit (.string []), .nil, .nil, .lit (.int .i64 0)], [], [])) (by kernel_rfl) rfl (by kernel_rfl)) ?_
  intro W base args ds gs before hval hW _ hk _
  refine row_contract (f := 5) (fn := Try.f5) (s := Rows.expectSettlesSpec) (tb := 4) (by kernel_rfl) (by kernel_rfl) (by kernel_rfl) (by kernel_rfl) rfl (by kernel_rfl) Try.underlying4 (of_decide_eq_true (by kernel_rfl)) (fun H ds hd => ?_)
    (N := 1048576) (hrd := by rw [Try.params5]; exact ExpectSettles_ra) (fun a ok wt => ?_) H enc Rows.uptoBulk bulkOk W base args ds gs before hval hW (bulkSmall hk)
  · rw [Try.params5] at hd
    match ds, hd with
    | [d0, d1, d2, d3, d4], _ => rfl
  · obtain ⟨x0, x1, x2, x3, x4, _⟩ := a
    obtain ⟨o0, o1, o2, o3, o4, _⟩ := ok
    exact F5_ok (hp x0 x1 x2 x3 x4 o0 o1 o2 o3 o4 wt)
theorem ExpectSettles_over (hp : ExpectSettles.Pure) : Rows.expectSettlesUptoRow.holds Try.pinned (Rows.OpenSpec.upto Rows.expectSettlesSpec) :=
  OpenClaim.holds_of_cond 5 Try.f5 rfl rfl rfl rfl rfl rfl rfl ⟨rfl, rfl, rfl, rfl, rfl⟩ rfl rfl rfl rfl rfl (by kernel_rfl) Try.func5 (by kernel_rfl)
    (of_decide_eq_true (by kernel_rfl)) (by unfold Func.isWrapper; first | (rw [if_pos (by decide +kernel)]; kernel_rfl) | (rw [if_neg (by decide +kernel)]; exact ⟨rfl, rfl⟩))
    (fun os started H enc _ F => ExpectSettles_lifted hp os started H enc F)
end
section
open Go.ChangeShapes Go.WideShapes Go.ChangeAt Go.RowKit
theorem ExpectOthers_ra : ReadsAll Try.prog [22, 9, 9, 9, 23] (α := (List Expectation) × ByteArray × ByteArray × ByteArray × (List ByteArray) × Unit) (fun p => [.c (.d (.sl (p.1.map eExpectation))), .c (.d (.v (.string p.2.1))), .c (.d (.v (.string p.2.2.1))), .c (.d (.v (.string p.2.2.2.1))), .c (.d (.sl (p.2.2.2.2.1.map eS)))]) (fun p => (okL okExpectation) p.1 ∧ okT p.2.1 ∧ okT p.2.2.1 ∧ okT p.2.2.2.1 ∧ (okL okT) p.2.2.2.2.1 ∧ True) (fun p => (wL wExpectation) p.1 + (wS p.2.1 + (wS p.2.2.1 + (wS p.2.2.2.1 + ((wL wS) p.2.2.2.2.1 + (0)))))) := (ra_cons (rv_cell (f := fun (a : (List Expectation)) => D.sl (a.map eExpectation)) (oc_slice Try.underlying22) (rd_slice (enc := eExpectation) (sz := 4) Try.underlying22 rd_Expectation (by kernel_rfl) (by decide) (fun _ => rfl))) (ra_cons (rv_cell (f := fun (a : ByteArray) => D.v (.string a)) (oc_str Try.underlying9) (rd_str Try.underlying9)) (ra_cons (rv_cell (f := fun (a : ByteArray) => D.v (.string a)) (oc_str Try.underlying9) (rd_str Try.underlying9)) (ra_cons (rv_cell (f := fun (a : ByteArray) => D.v (.string a)) (oc_str Try.underlying9) (rd_str Try.underlying9)) (ra_cons (rv_cell (f := fun (a : (List ByteArray)) => D.sl (a.map eS)) (oc_slice Try.underlying23) (rd_slice (enc := eS) (sz := 1) Try.underlying23 (rd_str Try.underlying9) (by kernel_rfl) (by decide) (fun _ => rfl))) ra_nil)))))
set_option maxRecDepth 100000 in
theorem ExpectOthers_lifted (hp : ExpectOthers.Pure) (os : Os) (started : os.Started) (H : Type) (enc : TypeId × Value → H) (F : Stop.Interp) :
    ReturnsInHanded {} Try.checked os 6 .any ((Rows.OpenSpec.upto Rows.expectOthersSpec).pre6 enc Try.prog Try.f6 Rows.expectOthersUptoRow.domain false) (((Rows.OpenSpec.upto Rows.expectOthersSpec).at F).post enc Try.prog Try.f6 false true false false) := by
  refine returnsInHanded_of_cond (C := Try.checked) (s := Rows.OpenSpec.upto Rows.expectOthersSpec) (k := Rows.uptoSmall) rfl ownKnob_ok started (by kernel_rfl) Try.func6
    (OpenSpec.witness (enc := enc) (C := Try.checked) (s := Rows.OpenSpec.upto Rows.expectOthersSpec) (k := Rows.uptoSmall) rfl false ⟨#[], #[.slice none 0 0, .string ⟨#[]⟩, .string ⟨#[]⟩, .string ⟨#[]⟩, .slice none 0 0], []⟩ 8 (by kernel_rfl) (by kernel_rfl) (by kernel_rfl)
      (x := ([.nil, .lit (.string []), .lit (.string []), .lit (.string []), .nil], [], [])) (by kernel_rfl) rfl (by kernel_rfl)) ?_
  intro W base args ds gs before hval hW _ hk _
  refine row_contract (f := 6) (fn := Try.f6) (s := Rows.expectOthersSpec) (tb := 4) (by kernel_rfl) (by kernel_rfl) (by kernel_rfl) (by kernel_rfl) rfl (by kernel_rfl) Try.underlying4 (of_decide_eq_true (by kernel_rfl)) (fun H ds hd => ?_)
    (N := 1048576) (hrd := by rw [Try.params6]; exact ExpectOthers_ra) (fun a ok wt => ?_) H enc Rows.uptoBulk bulkOk W base args ds gs before hval hW (bulkSmall hk)
  · rw [Try.params6] at hd
    match ds, hd with
    | [d0, d1, d2, d3, d4], _ => rfl
  · obtain ⟨x0, x1, x2, x3, x4, _⟩ := a
    obtain ⟨o0, o1, o2, o3, o4, _⟩ := ok
    exact F6_ok (hp x0 x1 x2 x3 x4 o0 o1 o2 o3 o4 wt)
theorem ExpectOthers_over (hp : ExpectOthers.Pure) : Rows.expectOthersUptoRow.holds Try.pinned (Rows.OpenSpec.upto Rows.expectOthersSpec) :=
  OpenClaim.holds_of_cond 6 Try.f6 rfl rfl rfl rfl rfl rfl rfl ⟨rfl, rfl, rfl, rfl, rfl⟩ rfl rfl rfl rfl rfl (by kernel_rfl) Try.func6 (by kernel_rfl)
    (of_decide_eq_true (by kernel_rfl)) (by unfold Func.isWrapper; first | (rw [if_pos (by decide +kernel)]; kernel_rfl) | (rw [if_neg (by decide +kernel)]; exact ⟨rfl, rfl⟩))
    (fun os started H enc _ F => ExpectOthers_lifted hp os started H enc F)
end
end Go.Proofs.Ytkgjaknjpdkaeaa
