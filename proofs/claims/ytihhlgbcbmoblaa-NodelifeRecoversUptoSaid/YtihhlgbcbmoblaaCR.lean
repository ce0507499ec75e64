/- The laws' rows over their plain laws. -/
import Derived.Test.YtihhlgbcbmoblaaCP
import Derived.Test.YtihhlgbcbmoblaaFF
import Derived.Test.YtihhlgbcbmoblaaRows
set_option linter.unusedVariables false
set_option linter.unusedSimpArgs false
namespace Go.Proofs.Ytihhlgbcbmoblaa
open Go Go.Fw
set_option maxRecDepth 100000
theorem ownKnob_ok : ownKnob Try.prog.godebug = none := by kernel_rfl
theorem bulkAll_sum {H : Type} : ∀ l : List (DataW H), Rows.uptoBulkAll l = (l.map Rows.uptoBulk).sum
  | [] => rfl
  | d :: l => by simp only [Rows.uptoBulkAll, List.map_cons, List.sum_cons, bulkAll_sum l]
theorem bulkOk {H : Type} : BulkOk (Rows.uptoBulk (H := H)) := by
  refine ⟨fun b => by simp [Rows.uptoBulk], fun d => ?_, fun xs ys => ?_, fun xs => ?_⟩
  · cases d with
    | lit l => cases l <;> simp [Rows.uptoBulk]
    | nil => simp [Rows.uptoBulk]
    | ptr d => simp [Rows.uptoBulk]
    | slice elems spare => simp [Rows.uptoBulk]
    | agg parts => simp [Rows.uptoBulk]
    | iface t d => simp [Rows.uptoBulk]
    | map entries => simp [Rows.uptoBulk]
    | held h => simp [Rows.uptoBulk]
  · simp only [Rows.uptoBulk, bulkAll_sum]; omega
  · simp only [Rows.uptoBulk, bulkAll_sum]; omega
theorem bulkSmall {H : Type} {l : List (DataW H)} (hk : Rows.uptoSmall H l = true) : (l.map Rows.uptoBulk).sum ≤ 1048576 := by
  have h := of_decide_eq_true hk
  rwa [bulkAll_sum] at h
section
open Go.ChangeShapes Go.WideShapes Go.ChangeAt Go.RowKit
theorem rd_Image : Reads Try.prog 70 eImage okImage wImage := rd_struct (β := ByteArray × Int × Int × Unit) Try.underlying70 (by kernel_rfl) (rdF_cons (n := 1) (rd_str Try.underlying9) (by kernel_rfl) rfl (rdF_cons (n := 1) (rd_int Try.underlying3) (by kernel_rfl) rfl (rdF_cons (n := 1) (rd_int Try.underlying3) (by kernel_rfl) rfl rdF_nil))) (fun p => ⟨p.1, p.2.1, p.2.2.1⟩) (by intro _; rfl) (by intro _ h; exact h) (by intro _; rfl)
theorem rd_Taint : Reads Try.prog 67 eTaint okTaint wTaint := rd_struct (β := ByteArray × ByteArray × Int × Int × Unit) Try.underlying67 (by kernel_rfl) (rdF_cons (n := 1) (rd_str Try.underlying9) (by kernel_rfl) rfl (rdF_cons (n := 1) (rd_str Try.underlying9) (by kernel_rfl) rfl (rdF_cons (n := 1) (rd_int Try.underlying3) (by kernel_rfl) rfl (rdF_cons (n := 1) (rd_int Try.underlying3) (by kernel_rfl) rfl rdF_nil)))) (fun p => ⟨p.1, p.2.1, p.2.2.1, p.2.2.2.1⟩) (by intro _; rfl) (by intro _ h; exact h) (by intro _; rfl)
theorem rd_Resources : Reads Try.prog 29 eResources okResources wResources := rd_struct (β := Int × Int × Int × Unit) Try.underlying29 (by kernel_rfl) (rdF_cons (n := 1) (rd_int Try.underlying3) (by kernel_rfl) rfl (rdF_cons (n := 1) (rd_int Try.underlying3) (by kernel_rfl) rfl (rdF_cons (n := 1) (rd_int Try.underlying3) (by kernel_rfl) rfl rdF_nil))) (fun p => ⟨p.1, p.2.1, p.2.2.1⟩) (by intro _; rfl) (by intro _ h; exact h) (by intro _; rfl)
theorem rd_Manager : Reads Try.prog 96 eManager okManager wManager := rd_struct (β := ByteArray × (List ByteArray) × Unit) Try.underlying96 (by kernel_rfl) (rdF_cons (n := 1) (rd_str Try.underlying9) (by kernel_rfl) rfl (rdF_cons (n := 1) (rd_slice (enc := eS) (sz := 1) Try.underlying24 (rd_str Try.underlying9) (by kernel_rfl) (by decide) (fun _ => rfl)) (by kernel_rfl) rfl rdF_nil)) (fun p => ⟨p.1, p.2.1⟩) (by intro _; rfl) (by intro _ h; exact h) (by intro _; rfl)
theorem rd_Owner : Reads Try.prog 94 eOwner okOwner wOwner := rd_struct (β := ByteArray × ByteArray × Int × Bool × Bool × Unit) Try.underlying94 (by kernel_rfl) (rdF_cons (n := 1) (rd_str Try.underlying9) (by kernel_rfl) rfl (rdF_cons (n := 1) (rd_str Try.underlying9) (by kernel_rfl) rfl (rdF_cons (n := 1) (rd_int Try.underlying3) (by kernel_rfl) rfl (rdF_cons (n := 1) (rd_bool Try.underlying4) (by kernel_rfl) rfl (rdF_cons (n := 1) (rd_bool Try.underlying4) (by kernel_rfl) rfl rdF_nil))))) (fun p => ⟨p.1, p.2.1, p.2.2.1, p.2.2.2.1, p.2.2.2.2.1⟩) (by intro _; rfl) (by intro _ h; exact h) (by intro _; rfl)
theorem rd_Label : Reads Try.prog 92 eLabel okLabel wLabel := rd_struct (β := ByteArray × ByteArray × Unit) Try.underlying92 (by kernel_rfl) (rdF_cons (n := 1) (rd_str Try.underlying9) (by kernel_rfl) rfl (rdF_cons (n := 1) (rd_str Try.underlying9) (by kernel_rfl) rfl rdF_nil)) (fun p => ⟨p.1, p.2.1⟩) (by intro _; rfl) (by intro _ h; exact h) (by intro _; rfl)
theorem rd_Meta : Reads Try.prog 27 eMeta okMeta wMeta := rd_struct (β := ByteArray × ByteArray × ByteArray × Int × Int × Int × Int × Bool × Int × (List Label) × (List Owner) × (List ByteArray) × (List Manager) × Unit) Try.underlying27 (by kernel_rfl) (rdF_cons (n := 1) (rd_str Try.underlying9) (by kernel_rfl) rfl (rdF_cons (n := 1) (rd_str Try.underlying9) (by kernel_rfl) rfl (rdF_cons (n := 1) (rd_str Try.underlying9) (by kernel_rfl) rfl (rdF_cons (n := 1) (rd_int Try.underlying3) (by kernel_rfl) rfl (rdF_cons (n := 1) (rd_int Try.underlying3) (by kernel_rfl) rfl (rdF_cons (n := 1) (rd_int Try.underlying3) (by kernel_rfl) rfl (rdF_cons (n := 1) (rd_int Try.underlying3) (by kernel_rfl) rfl (rdF_cons (n := 1) (rd_bool Try.underlying4) (by kernel_rfl) rfl (rdF_cons (n := 1) (rd_int Try.underlying3) (by kernel_rfl) rfl (rdF_cons (n := 1) (rd_slice (enc := eLabel) (sz := 2) Try.underlying22 rd_Label (by kernel_rfl) (by decide) (fun _ => rfl)) (by kernel_rfl) rfl (rdF_cons (n := 1) (rd_slice (enc := eOwner) (sz := 5) Try.underlying23 rd_Owner (by kernel_rfl) (by decide) (fun _ => rfl)) (by kernel_rfl) rfl (rdF_cons (n := 1) (rd_slice (enc := eS) (sz := 1) Try.underlying24 (rd_str Try.underlying9) (by kernel_rfl) (by decide) (fun _ => rfl)) (by kernel_rfl) rfl (rdF_cons (n := 1) (rd_slice (enc := eManager) (sz := 2) Try.underlying25 rd_Manager (by kernel_rfl) (by decide) (fun _ => rfl)) (by kernel_rfl) rfl rdF_nil))))))))))))) (fun p => ⟨p.1, p.2.1, p.2.2.1, p.2.2.2.1, p.2.2.2.2.1, p.2.2.2.2.2.1, p.2.2.2.2.2.2.1, p.2.2.2.2.2.2.2.1, p.2.2.2.2.2.2.2.2.1, p.2.2.2.2.2.2.2.2.2.1, p.2.2.2.2.2.2.2.2.2.2.1, p.2.2.2.2.2.2.2.2.2.2.2.1, p.2.2.2.2.2.2.2.2.2.2.2.2.1⟩) (by intro _; rfl) (by intro _ h; exact h) (by intro _; rfl)
theorem rd_Node : Reads Try.prog 33 eNode okNode wNode := rd_struct (β := Meta × Resources × Int × Bool × (List Taint) × Bool × Int × Bool × Bool × (List Image) × Unit) Try.underlying33 (by kernel_rfl) (rdF_cons (n := 13) rd_Meta (by kernel_rfl) rfl (rdF_cons (n := 3) rd_Resources (by kernel_rfl) rfl (rdF_cons (n := 1) (rd_int Try.underlying3) (by kernel_rfl) rfl (rdF_cons (n := 1) (rd_bool Try.underlying4) (by kernel_rfl) rfl (rdF_cons (n := 1) (rd_slice (enc := eTaint) (sz := 4) Try.underlying30 rd_Taint (by kernel_rfl) (by decide) (fun _ => rfl)) (by kernel_rfl) rfl (rdF_cons (n := 1) (rd_bool Try.underlying4) (by kernel_rfl) rfl (rdF_cons (n := 1) (rd_int Try.underlying3) (by kernel_rfl) rfl (rdF_cons (n := 1) (rd_bool Try.underlying4) (by kernel_rfl) rfl (rdF_cons (n := 1) (rd_bool Try.underlying4) (by kernel_rfl) rfl (rdF_cons (n := 1) (rd_slice (enc := eImage) (sz := 3) Try.underlying31 rd_Image (by kernel_rfl) (by decide) (fun _ => rfl)) (by kernel_rfl) rfl rdF_nil)))))))))) (fun p => ⟨p.1, p.2.1, p.2.2.1, p.2.2.2.1, p.2.2.2.2.1, p.2.2.2.2.2.1, p.2.2.2.2.2.2.1, p.2.2.2.2.2.2.2.1, p.2.2.2.2.2.2.2.2.1, p.2.2.2.2.2.2.2.2.2.1⟩) (by intro _; rfl) (by intro _ h; exact h) (by intro _; rfl)
theorem NodelifeRecovers_ra : ReadsAll Try.prog [33, 3, 3, 3] (α := Node × Int × Int × Int × Unit) (fun p => [.agg ((eNode p.1).map .d), .c (.d (.v (.int .i64 p.2.1))), .c (.d (.v (.int .i64 p.2.2.1))), .c (.d (.v (.int .i64 p.2.2.2.1)))]) (fun p => okNode p.1 ∧ okN p.2.1 ∧ okN p.2.2.1 ∧ okN p.2.2.2.1 ∧ True) (fun p => wNode p.1 + (wN p.2.1 + (wN p.2.2.1 + (wN p.2.2.2.1 + (0))))) := (ra_cons (rv_struct Try.underlying33 rd_Node) (ra_cons (rv_cell (f := fun (a : Int) => D.v (.int .i64 a)) (oc_int Try.underlying3) (rd_int Try.underlying3)) (ra_cons (rv_cell (f := fun (a : Int) => D.v (.int .i64 a)) (oc_int Try.underlying3) (rd_int Try.underlying3)) (ra_cons (rv_cell (f := fun (a : Int) => D.v (.int .i64 a)) (oc_int Try.underlying3) (rd_int Try.underlying3)) ra_nil))))
set_option maxRecDepth 100000 in
theorem NodelifeRecovers_lifted (hp : NodelifeRecovers.Pure) (os : Os) (started : os.Started) (H : Type) (enc : TypeId × Value → H) (F : Stop.Interp) :
    ReturnsInHanded {} Try.checked os 5 .any ((Rows.OpenSpec.upto Rows.nodelifeRecoversSpec).pre6 enc Try.prog Try.f5 Rows.nodelifeRecoversUptoRow.domain false) (((Rows.OpenSpec.upto Rows.nodelifeRecoversSpec).at F).post enc Try.prog Try.f5 false true false false) := by
  refine returnsInHanded_of_cond (C := Try.checked) (s := Rows.OpenSpec.upto Rows.nodelifeRecoversSpec) (k := Rows.uptoSmall) rfl ownKnob_ok started (by kernel_rfl) Try.func5
    (OpenSpec.witness (enc := enc) (C := Try.checked) (s := Rows.OpenSpec.upto Rows.nodelifeRecoversSpec) (k := Rows.uptoSmall) rfl false ⟨#[], #[.agg #[.string ⟨#[]⟩, .string ⟨#[]⟩, .string ⟨#[]⟩, .int .i64 0, .int .i64 0, .int .i64 0, .int .i64 0, .bool false, .int .i64 0, .slice none 0 0, .slice none 0 0, .slice none 0 0, .slice none 0 0, .int .i64 0, .int .i64 0, .int .i64 0, .int .i64 0, .bool false, .slice none 0 0, .bool false, .int .i64 0, .bool false, .bool false, .slice none 0 0], .int .i64 0, .int .i64 0, .int .i64 0], []⟩ 8 (by kernel_rfl) (by kernel_rfl) (by kernel_rfl)
      (x := ([.agg [.agg [.lit (.string []), .lit (.string []), .lit (.string []), .lit (.int .i64 0), .lit (.int .i64 0), .lit (.int .i64 0), .lit (.int .i64 0), .lit (.bool false), .lit (.int .i64 0), .nil, .nil, .nil, .nil], .agg [.lit (.int .i64 0), .lit (.int .i64 0), .lit (.int .i64 0)], .lit (.int .i64 0), .lit (.bool false), .nil, .lit (.bool false), .lit (.int .i64 0), .lit (.bool false), .lit (.bool false), .nil], .lit (.int .i64 0), .lit (.int .i64 0), .lit (.int .i64 0)], [], [])) (by kernel_rfl) rfl (by kernel_rfl)) ?_
  intro W base args ds gs before hval hW _ hk _
  refine row_contract (f := 5) (fn := Try.f5) (s := Rows.nodelifeRecoversSpec) (tb := 4) (by kernel_rfl) (by kernel_rfl) (by kernel_rfl) (by kernel_rfl) rfl (by kernel_rfl) Try.underlying4 (of_decide_eq_true (by kernel_rfl)) (fun H ds hd => ?_)
    (N := 1048576) (hrd := by rw [Try.params5]; exact NodelifeRecovers_ra) (fun a ok wt => ?_) H enc Rows.uptoBulk bulkOk W base args ds gs before hval hW (bulkSmall hk)
  · rw [Try.params5] at hd
    match ds, hd with
    | [d0, d1, d2, d3], _ => rfl
  · obtain ⟨x0, x1, x2, x3, _⟩ := a
    obtain ⟨o0, o1, o2, o3, _⟩ := ok
    exact F5_ok (hp x0 x1 x2 x3 o0 o1 o2 o3 wt)
theorem NodelifeRecovers_over (hp : NodelifeRecovers.Pure) : Rows.nodelifeRecoversUptoRow.holds Try.pinned (Rows.OpenSpec.upto Rows.nodelifeRecoversSpec) :=
  OpenClaim.holds_of_cond 5 Try.f5 rfl rfl rfl rfl rfl rfl rfl ⟨rfl, rfl, rfl, rfl, rfl⟩ rfl rfl rfl rfl rfl (by kernel_rfl) Try.func5 (by kernel_rfl)
    (of_decide_eq_true (by kernel_rfl)) (by unfold Func.isWrapper; first | (rw [if_pos (by decide +kernel)]; kernel_rfl) | (rw [if_neg (by decide +kernel)]; exact ⟨rfl, rfl⟩))
    (fun os started H enc _ F => NodelifeRecovers_lifted hp os started H enc F)
end
end Go.Proofs.Ytihhlgbcbmoblaa
