/- The plain laws, part 3. -/
import Derived.Test.YtihhlgbcbmoblaaAQ2
set_option linter.unusedVariables false
set_option linter.unusedSimpArgs false
namespace Go.Proofs.Ytihhlgbcbmoblaa
open Go Go.Fw
set_option maxRecDepth 100000

/-! A node is the same as itself. -/
structure Sn (x : Node) : Prop extends Sz x where
  k1 : x.Meta.Kind.size ≤ 2000000
  k2 : x.Meta.Namespace.size ≤ 2000000
  k3 : x.Meta.Name.size ≤ 2000000
theorem F41_some (m : Meta) (h1 : m.Kind.size ≤ 2000000) (h2 : m.Namespace.size ≤ 2000000) (h3 : m.Name.size ≤ 2000000) : ∃ k, F41 m = some k := by
  unfold F41 F64
  have hs : (⟨#[47]⟩ : ByteArray).size = 1 := rfl
  rw [cat_t (by omega), Option.bind_some, cat_t (by rw [ByteArray.size_append]; omega), Option.bind_some, cat_t (by rw [ByteArray.size_append, ByteArray.size_append]; omega), Option.bind_some, cat_t (by rw [ByteArray.size_append, ByteArray.size_append, ByteArray.size_append]; omega)]
  exact ⟨_, rfl⟩
theorem F45_l2_spec (l : List ByteArray) : ∀ n i, l.length = i + n → F45_l2 l (l.drop i) i = some (.inr ())
  | 0, i, h => by rw [List.drop_of_length_le (by omega)]; rfl
  | n + 1, i, h => by
    have hi : i < l.length := by omega
    rw [List.drop_eq_getElem_cons hi, F45_l2, rdI_at hi]
    simp only [Option.bind_some, not_true_eq_false, if_false]
    exact F45_l2_spec l n (i + 1) (by omega)
theorem F45_same (l : List ByteArray) (h : l.length ≤ 2000000) : F45 l l = some true := by
  unfold F45
  rw [if_neg (by simp), ck_t ⟨Nat.zero_le _, by omega⟩]
  have := F45_l2_spec l l.length 0 (by omega)
  rw [List.drop_zero] at this
  simp only [Option.bind_some, this]
theorem F21_l19_spec (m : Meta) : ∀ n i, m.Labels.length = i + n → F21_l19 m (m.Labels.drop i) i = some (.inr ())
  | 0, i, h => by rw [List.drop_of_length_le (by omega)]; rfl
  | n + 1, i, h => by
    have hi : i < m.Labels.length := by omega
    rw [List.drop_eq_getElem_cons hi, F21_l19, rdI_at hi]
    simp only [Option.bind_some, and_self, not_true_eq_false, if_false]
    exact F21_l19_spec m n (i + 1) (by omega)
theorem F21_l24_spec (m : Meta) : ∀ n i, m.Owners.length = i + n → F21_l24 m (m.Owners.drop i) i = some (.inr ())
  | 0, i, h => by rw [List.drop_of_length_le (by omega)]; rfl
  | n + 1, i, h => by
    have hi : i < m.Owners.length := by omega
    rw [List.drop_eq_getElem_cons hi, F21_l24, rdI_at hi]
    simp only [Option.bind_some, decide_true, BEq.rfl, Bool.and_self, nb, Bool.not_true, Bool.false_eq_true, if_false]
    exact F21_l24_spec m n (i + 1) (by omega)
theorem F21_l29_spec (m : Meta) (hf : ∀ y ∈ m.Managers, y.Fields.length ≤ 1999000) : ∀ n i, m.Managers.length = i + n → F21_l29 m (m.Managers.drop i) i = some (.inr ())
  | 0, i, h => by rw [List.drop_of_length_le (by omega)]; rfl
  | n + 1, i, h => by
    have hi : i < m.Managers.length := by omega
    have := hf _ (List.getElem_mem hi)
    rw [List.drop_eq_getElem_cons hi, F21_l29, rdI_at hi]
    simp only [Option.bind_some, not_true_eq_false, if_false]
    rw [F45_same _ (by omega)]
    simp only [Option.bind_some, nb, Bool.not_true, Bool.false_eq_true, if_false]
    exact F21_l29_spec m hf n (i + 1) (by omega)
theorem F21_same {x : Node} (h : Sn x) : F21 x.Meta x.Meta = some true := by
  obtain ⟨k, hk⟩ := F41_some x.Meta h.k1 h.k2 h.k3
  have h1 := h.l; have h2 := h.o; have h3 := h.m; have h4 := h.f
  unfold F21
  rw [hk]
  simp only [Option.bind_some, not_true_eq_false, if_false, BEq.rfl, bne_self_eq_false, Bool.false_eq_true, decide_false]
  rw [F45_same _ (by omega)]
  simp only [Option.bind_some, nb, Bool.not_true, Bool.false_eq_true, if_false]
  rw [ck_t ⟨Nat.zero_le _, by omega⟩]
  have e1 := F21_l19_spec x.Meta x.Meta.Labels.length 0 (by omega)
  rw [List.drop_zero] at e1
  simp only [Option.bind_some, e1]
  rw [ck_t ⟨Nat.zero_le _, by omega⟩]
  have e2 := F21_l24_spec x.Meta x.Meta.Owners.length 0 (by omega)
  rw [List.drop_zero] at e2
  simp only [Option.bind_some, e2]
  rw [ck_t ⟨Nat.zero_le _, by omega⟩]
  have e3 := F21_l29_spec x.Meta h.mf x.Meta.Managers.length 0 (by omega)
  rw [List.drop_zero] at e3
  simp only [Option.bind_some, e3]
theorem F17_l2_spec (l : List Taint) : ∀ n i, l.length = i + n → F17_l2 l (l.drop i) i = some (.inr ())
  | 0, i, h => by rw [List.drop_of_length_le (by omega)]; rfl
  | n + 1, i, h => by
    have hi : i < l.length := by omega
    rw [List.drop_eq_getElem_cons hi, F17_l2, rdI_at hi]
    simp only [Option.bind_some, and_self, not_true_eq_false, if_false]
    exact F17_l2_spec l n (i + 1) (by omega)
theorem F17_same (l : List Taint) (h : l.length ≤ 2000000) : F17 l l = some true := by
  unfold F17
  rw [if_neg (by simp), ck_t ⟨Nat.zero_le _, by omega⟩]
  have := F17_l2_spec l l.length 0 (by omega)
  rw [List.drop_zero] at this
  simp only [Option.bind_some, this]
theorem F8_l12_spec (x : Node) : ∀ n i, x.Images.length = i + n → F8_l12 x (x.Images.drop i) i = some (.inr ())
  | 0, i, h => by rw [List.drop_of_length_le (by omega)]; rfl
  | n + 1, i, h => by
    have hi : i < x.Images.length := by omega
    rw [List.drop_eq_getElem_cons hi, F8_l12, rdI_at hi]
    simp only [Option.bind_some, and_self, not_true_eq_false, if_false]
    exact F8_l12_spec x n (i + 1) (by omega)
theorem F8_same {x : Node} (h : Sn x) : F8 x x = some true := by
  have h1 := h.i; have h2 := h.t
  unfold F8
  rw [F21_same h]
  simp only [Option.bind_some, nb, Bool.not_true, Bool.false_eq_true, if_false, and_self, not_true_eq_false, BEq.rfl, bne_self_eq_false, decide_false]
  rw [ck_t ⟨Nat.zero_le _, by omega⟩]
  have e1 := F8_l12_spec x x.Images.length 0 (by omega)
  rw [List.drop_zero] at e1
  simp only [Option.bind_some, e1]
  rw [F17_same _ (by omega)]; rfl
theorem sn_of {x : Node} (h : wNode x ≤ 1048576) : Sn x := by
  unfold wNode wMeta wL wS at h
  have h1 := wsum_le (w := wLabel) (fun a => by unfold wLabel; omega) x.Meta.Labels
  have h2 := wsum_le (w := wOwner) (fun a => by unfold wOwner; omega) x.Meta.Owners
  have h3 := wsum_le (w := wS) (fun a => by unfold wS; omega) x.Meta.Finalizers
  have h4 := wsum_le (w := wManager) (fun a => by unfold wManager; omega) x.Meta.Managers
  have h5 := wsum_le (w := wTaint) (fun a => by unfold wTaint; omega) x.Taints
  have h6 := wsum_le (w := wImage) (fun a => by unfold wImage; omega) x.Images
  have e3 : (x.Meta.Finalizers.map wS).sum = (x.Meta.Finalizers.map fun s => s.size + 1).sum := rfl
  refine ⟨⟨by omega, by omega, by omega, by omega, fun y hy => ?_, by omega, by omega⟩, by omega, by omega, by omega⟩
  have a1 := mem_sum wManager hy
  have a2 := wsum_le (w := wS) (fun a => by unfold wS; omega) y.Fields
  have a3 : wManager y = wS y.Name + (((y.Fields.map wS).sum + 1) + 0) + 1 := rfl
  omega
theorem chk_len (w l : List Taint) : (chk w l).length ≤ l.length + w.length := by
  have h1 : (l.filter fun x => !(mg x && !hs w x)).length ≤ l.length := List.length_filter_le ..
  have h2 : (w.filter fun x => !hs l x).length ≤ w.length := List.length_filter_le ..
  unfold chk; rw [List.length_append]; omega

end Go.Proofs.Ytihhlgbcbmoblaa
