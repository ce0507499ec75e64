/- The plain laws, part 1. -/
import Derived.Test.YtihhlgbcbmoblaaCP
import Derived.Test.YtihhlgbcbmoblaaFP
import Derived.KernelRfl
set_option linter.unusedVariables false
set_option linter.unusedSimpArgs false
namespace Go.Proofs.Ytihhlgbcbmoblaa
open Go Go.Fw
set_option maxRecDepth 100000

instance (x : ByteArray) (l : List ByteArray) : Decidable (x ∈ l) := decidable_of_iff (l.any (fun y => decide (y = x)) = true) (by simp)

/-! Deleting by a test. -/
section
variable {α : Type}
def dlL (p : α → Bool) : Nat → List α → Int → Int → Option (List α × Int)
  | 0, _, _, _ => none
  | k + 1, c, w, r => if r < (c.length : Int) then (((rdI c r).bind fun y => if (nb (p y)) = true then (rdI c w).bind fun _ => some ((c.set w.toNat y, IntKind.i64.wrap (w + 1))) else some ((c, w))).bind fun o => dlL p k o.1 o.2 (IntKind.i64.wrap (r + 1))) else some ((c, w))
def fip (p : α → Bool) : List α → Nat
  | [] => 0
  | y :: l => if p y = true then 0 else fip p l + 1
theorem fip_le (p : α → Bool) : ∀ l, fip p l ≤ l.length
  | [] => Nat.le_refl _
  | y :: l => by have := fip_le p l; unfold fip; split <;> simp <;> omega
theorem fip_take (p : α → Bool) : ∀ l : List α, (l.take (fip p l)).filter (fun x => !p x) = l.take (fip p l)
  | [] => rfl
  | y :: l => by
    have ih := fip_take p l
    unfold fip
    by_cases h : p y = true
    · rw [if_pos h]; rfl
    · rw [if_neg h, List.take_succ_cons, List.filter_cons_of_pos (by simpa using h), ih]
theorem fip_at (p : α → Bool) : ∀ {l : List α}, fip p l < l.length → ∃ y, l[fip p l]? = some y ∧ p y = true
  | [], h => by simp at h
  | z :: l, h => by
    unfold fip at h ⊢
    by_cases h1 : p z = true
    · rw [if_pos h1]; exact ⟨z, rfl, h1⟩
    · rw [if_neg h1] at h ⊢
      obtain ⟨y, h2, h3⟩ := fip_at p (l := l) (by simp at h; omega)
      exact ⟨y, by simpa using h2, h3⟩
theorem fip_none (p : α → Bool) : ∀ {l : List α}, ¬ fip p l < l.length → ∀ y ∈ l, p y = false
  | [], _, y, hy => by cases hy
  | z :: l, h, y, hy => by
    unfold fip at h
    by_cases h1 : p z = true
    · rw [if_pos h1] at h; simp at h
    · rw [if_neg h1] at h
      rcases List.mem_cons.1 hy with rfl | hy
      · simpa using h1
      · exact fip_none p (by simp at h; omega) y hy
theorem dlL_spec (p : α → Bool) (l : List α) (hb : l.length ≤ 2000000) : ∀ (n k : Nat) (c : List α) (w r : Nat), l.length = r + n → n < k → w ≤ r → c.length = l.length → c.drop r = l.drop r → c.take w = (l.take r).filter (fun x => !p x) →
    ∃ c' w', dlL p k c (w : Int) (r : Int) = some (c', ((w' : Nat) : Int)) ∧ c'.length = l.length ∧ w' ≤ l.length ∧ c'.take w' = l.filter (fun x => !p x)
  | _, 0, c, w, r, h, hk, _, _, _, _ => by omega
  | 0, k + 1, c, w, r, h, hk, hw, hc, hd, ht => by
    rw [dlL, if_neg (by omega)]
    exact ⟨c, w, rfl, hc, by omega, by rw [ht, List.take_of_length_le (by omega)]⟩
  | n + 1, k + 1, c, w, r, h, hk, hw, hc, hd, ht => by
    have hr : r < l.length := by omega
    have hrc : r < c.length := by omega
    have hcr : c[r] = l[r] := by
      have h1 := congrArg (·[0]?) hd
      simp only [List.getElem?_drop, Nat.add_zero] at h1
      rw [List.getElem?_eq_getElem hrc, List.getElem?_eq_getElem hr] at h1
      exact Option.some.inj h1
    have hd1 : c.drop (r + 1) = l.drop (r + 1) := by
      have := congrArg (List.drop 1) hd
      simpa [List.drop_drop, Nat.add_comm] using this
    have e1 : IntKind.i64.wrap ((r : Int) + 1) = ((r + 1 : Nat) : Int) := wrapN (by omega)
    have e2 : IntKind.i64.wrap ((w : Int) + 1) = ((w + 1 : Nat) : Int) := wrapN (by omega)
    have et : l.take (r + 1) = l.take r ++ [l[r]] := by rw [List.take_succ_eq_append_getElem hr]
    rw [dlL, if_pos (by omega), rdI_at hrc, hcr]
    simp only [Option.bind_some, nb_not]
    cases hx : p l[r] with
    | true =>
      simp only [Bool.not_true, Bool.false_eq_true, if_false, Option.bind_some, e1]
      refine dlL_spec p l hb n k c w (r + 1) (by omega) (by omega) (by omega) hc hd1 ?_
      rw [et, List.filter_append, List.filter_cons_of_neg (by simp [hx]), ht]; simp
    | false =>
      simp only [Bool.not_false, if_true]
      rw [rdI_at (by omega : w < c.length)]
      simp only [Option.bind_some, e1, e2, Int.toNat_natCast]
      refine dlL_spec p l hb n k (c.set w l[r]) (w + 1) (r + 1) (by omega) (by omega) (by omega) (by simpa using hc) ?_ ?_
      · rw [List.drop_set_of_lt (by omega), hd1]
      · rw [et, List.filter_append, List.filter_cons_of_pos (by simp [hx]), ← ht, List.take_set]
        have hwl : w < (c.take (w + 1)).length := by simp; omega
        rw [List.set_eq_take_append_cons_drop, if_pos hwl, List.take_take, Nat.min_eq_left (by omega)]
        rw [List.drop_of_length_le (by simp; omega)]; rfl
/-- slices.DeleteFunc. -/
theorem del_spec (p : α → Bool) (z : α) (l : List α) (hb : l.length ≤ 2000000) :
    (if (if fip p l < l.length then (fip p l : Int) else -1) = (-1) then some l else ((dlL p 1099511627776 l (if fip p l < l.length then (fip p l : Int) else -1) ((IntKind.i64.wrap ((if fip p l < l.length then (fip p l : Int) else -1) + 1)))).bind fun o3 => (slI o3.1 o3.2 ((o3.1.length : Int))).bind fun s10 => (slI ((clrL o3.1 o3.2.toNat s10.length z)) 0 o3.2).bind fun s11 => some s11)) = some (l.filter fun x => !p x) := by
  by_cases h : fip p l < l.length
  · simp only [h, if_true]
    rw [if_neg (by omega)]
    obtain ⟨y, h1, h2⟩ := fip_at p h
    have et : l.take (fip p l + 1) = l.take (fip p l) ++ [y] := by rw [List.take_add_one, h1]; rfl
    obtain ⟨c, w, g1, g2, g3, g4⟩ := dlL_spec p l hb (l.length - (fip p l + 1)) 1099511627776 l (fip p l) (fip p l + 1) (by omega) (by omega) (by omega) rfl rfl
      (by rw [et, List.filter_append, fip_take, List.filter_cons_of_neg (by simp [h2])]; simp)
    rw [wrapN (by omega), g1]
    simp only [Option.bind_some]
    rw [slI_t (by omega : w ≤ c.length) (Nat.le_refl _)]
    simp only [Option.bind_some, Int.toNat_natCast]
    have hcl : (clrL c w ((c.drop w).take (c.length - w)).length z).length = c.length := by
      simp only [clrL, List.length_append, List.length_take, List.length_replicate, List.length_drop]; omega
    rw [show slI (clrL c w ((c.drop w).take (c.length - w)).length z) 0 (w : Int) = _ from slI_t (l := 0) (h := w) (by omega) (by rw [hcl]; omega)]
    simp only [Option.bind_some, List.drop_zero, Nat.sub_zero]
    congr 1
    rw [← g4, clrL, List.append_assoc, List.take_append_of_le_length (by simp; omega), List.take_take, Nat.min_self]
  · simp only [h, if_false, if_true]
    congr 1
    exact (List.filter_eq_self.2 fun y hy => by simp [fip_none p h y hy]).symm
end

/-! Sorted names. -/
theorem bless_lt : ∀ x y : List UInt8, Op.bytesLess x y = decide (x < y)
  | [], [] => by simp [Op.bytesLess]
  | [], b :: y => by simp [Op.bytesLess]
  | a :: x, [] => by simp [Op.bytesLess]
  | a :: x, b :: y => by
    rw [Op.bytesLess, bless_lt x y, Bool.eq_iff_iff]
    simp only [Bool.or_eq_true, decide_eq_true_eq, Bool.and_eq_true, beq_iff_eq, List.cons_lt_cons_iff]
theorem toList_bl (b : ByteArray) : b.toList = bl b := by
  rw [show bl b = b.data.toList from rfl]; exact Go.ByteArray.toList_eq b
theorem lt_bl (a b : ByteArray) : lt a b ↔ bl a < bl b := by
  unfold lt; rw [toList_bl, toList_bl, bless_lt]; simp
theorem sortL_perm (xs : List ByteArray) : (sortL xs).Perm xs := by
  have h := (List.mergeSort_perm (xs.map bl) (fun x y => decide (x ≤ y))).map lb
  rw [List.map_map] at h
  have e : xs.map (lb ∘ bl) = xs := by
    have : (lb ∘ bl) = id := funext lb_bl
    rw [this, List.map_id]
  rw [e] at h; exact h
theorem sortL_mem (z : ByteArray) (xs : List ByteArray) : z ∈ sortL xs ↔ z ∈ xs := (sortL_perm xs).mem_iff
theorem sortL_pw (xs : List ByteArray) : (sortL xs).Pairwise fun a b => ¬ lt b a := by
  have h := List.pairwise_mergeSort (le := fun x y : List UInt8 => decide (x ≤ y)) (fun a b c h1 h2 => by simp only [decide_eq_true_eq] at *; exact List.le_trans h1 h2) (fun a b => by simp only [Bool.or_eq_true, decide_eq_true_eq]; exact List.le_total a b) (xs.map bl)
  unfold sortL
  rw [List.pairwise_map]
  refine h.imp fun {a b} hab => ?_
  rw [lt_bl, bl_lb, bl_lb]
  simp only [decide_eq_true_eq] at hab
  exact List.not_lt.2 hab
def keep (xs : List ByteArray) (j : Nat) : Bool := j == 0 || decide (xs[j]? ≠ xs[j - 1]?)
theorem compL_eq (xs : List ByteArray) : compL xs = ((List.range xs.length).filter (keep xs)).filterMap (xs[·]?) := by
  have hk : ∀ j ∈ List.range xs.length, Lib.keeps (xs.map bl).toArray j = keep xs j := by
    intro j hj
    have hj := List.mem_range.1 hj
    unfold Lib.keeps keep
    by_cases h0 : j = 0
    · simp [h0]
    · have h1 : j - 1 < xs.length := by omega
      rw [getElem!_pos _ j (by simpa using hj), getElem!_pos _ (j - 1) (by simpa using h1), List.getElem?_eq_getElem hj, List.getElem?_eq_getElem h1]
      simp only [List.getElem_toArray, List.getElem_map, ne_eq, Option.some.injEq]
      have : (bl xs[j] = bl xs[j - 1]) ↔ xs[j] = xs[j - 1] := ⟨fun e => by rw [← lb_bl xs[j], e, lb_bl], fun e => by rw [e]⟩
      simp [this, h0]
  unfold compL Lib.compact Lib.compactUpTo
  rw [List.length_map, List.filter_congr hk, List.map_map]
  rw [← List.filterMap_eq_map]
  have fc : ∀ (l : List Nat) (f g : Nat → Option ByteArray), (∀ j ∈ l, f j = g j) → l.filterMap f = l.filterMap g := by
    intro l f g
    induction l with
    | nil => intro _; rfl
    | cons x l ih =>
      intro h
      rw [List.filterMap_cons, List.filterMap_cons, h x (List.mem_cons_self ..), ih fun j hj => h j (List.mem_cons_of_mem _ hj)]
  refine fc _ _ _ fun j hj => ?_
  have hj := List.mem_range.1 (List.mem_filter.1 hj).1
  simp only [Function.comp]
  rw [getElem!_pos _ j (by simpa using hj), List.getElem?_eq_getElem hj]
  simp [lb_bl]
theorem compL_mem (z : ByteArray) (xs : List ByteArray) : z ∈ compL xs ↔ z ∈ xs := by
  rw [compL_eq, List.mem_filterMap]
  constructor
  · rintro ⟨j, _, h⟩; exact List.mem_of_getElem? h
  · intro h
    obtain ⟨i, hi, e⟩ := List.mem_iff_getElem.1 h
    have key : ∀ i, xs[i]? = some z → ∃ j, j ≤ i ∧ xs[j]? = some z ∧ keep xs j = true := by
      intro i
      induction i with
      | zero => intro h; exact ⟨0, Nat.le_refl _, h, rfl⟩
      | succ i ih =>
        intro h
        by_cases hp : xs[i]? = some z
        · obtain ⟨j, h1, h2⟩ := ih hp; exact ⟨j, by omega, h2⟩
        · exact ⟨i + 1, Nat.le_refl _, h, by unfold keep; rw [h, Nat.add_sub_cancel]; simp [Ne.symm hp]⟩
    obtain ⟨j, h1, h2, h3⟩ := key i (by rw [List.getElem?_eq_getElem hi, e])
    exact ⟨j, List.mem_filter.2 ⟨List.mem_range.2 (by omega), h3⟩, h2⟩
theorem compL_pw {xs : List ByteArray} (h : xs.Pairwise fun a b => ¬ lt b a) : (compL xs).Pairwise lt := by
  rw [compL_eq, List.pairwise_filterMap]
  have hr : ((List.range xs.length).filter (keep xs)).Pairwise (· < ·) := List.pairwise_lt_range.filter _
  refine List.Pairwise.imp_of_mem (fun {j k} hj hk hjk => ?_) hr
  intro a ha b hb
  have hkk := (List.mem_filter.1 hk).2
  have hp := List.pairwise_iff_getElem.1 h
  obtain ⟨hjl, ea⟩ := List.getElem?_eq_some_iff.1 ha
  obtain ⟨hkl, eb⟩ := List.getElem?_eq_some_iff.1 hb
  have h1 : ¬ lt b a := by rw [← ea, ← eb]; exact hp j k hjl hkl hjk
  refine lt_of_not h1 fun e => ?_
  unfold keep at hkk
  have hk0 : k ≠ 0 := by omega
  simp only [Bool.or_eq_true, beq_iff_eq, hk0, false_or, decide_eq_true_eq] at hkk
  apply hkk
  have hk1 : k - 1 < xs.length := by omega
  rw [List.getElem?_eq_getElem hkl, List.getElem?_eq_getElem hk1]
  congr 1
  by_cases hjk1 : j = k - 1
  · subst hjk1; rw [ea, eb, e]
  · have g1 := hp j (k - 1) hjl hk1 (by omega)
    have g2 := hp (k - 1) k hk1 hkl (by omega)
    rw [ea, ← e] at g1
    rw [eb] at g2 ⊢
    exact lt_tri g2 g1
/-- Strictly sorted lists of the same names. -/
theorem pw_uniq : ∀ {a b : List ByteArray}, a.Pairwise lt → b.Pairwise lt → (∀ z, z ∈ a ↔ z ∈ b) → a = b
  | [], [], _, _, _ => rfl
  | [], y :: b, _, _, h => by have := (h y).2 (List.mem_cons_self ..); cases this
  | x :: a, [], _, _, h => by have := (h x).1 (List.mem_cons_self ..); cases this
  | x :: a, y :: b, ha, hb, h => by
    have ha2 := List.pairwise_cons.1 ha
    have hb2 := List.pairwise_cons.1 hb
    have hxy : x = y := by
      rcases List.mem_cons.1 ((h x).1 (List.mem_cons_self ..)) with e | hx
      · exact e
      · rcases List.mem_cons.1 ((h y).2 (List.mem_cons_self ..)) with e | hy
        · exact e.symm
        · exact (lt_asymm (hb2.1 x hx) (ha2.1 y hy)).elim
    subst hxy
    congr 1
    refine pw_uniq ha2.2 hb2.2 fun z => ⟨fun hz => ?_, fun hz => ?_⟩
    · rcases List.mem_cons.1 ((h z).1 (List.mem_cons_of_mem _ hz)) with e | hz2
      · exact (lt_irrefl x (e ▸ ha2.1 z hz)).elim
      · exact hz2
    · rcases List.mem_cons.1 ((h z).2 (List.mem_cons_of_mem _ hz)) with e | hz2
      · exact (lt_irrefl x (e ▸ hb2.1 z hz)).elim
      · exact hz2
theorem cat_t {a b : ByteArray} (h : a.size + b.size ≤ 9000000000) : catI a b = some (a ++ b) := if_pos (by omega)
theorem mem_sum {α : Type} (w : α → Nat) : ∀ {l : List α} {y : α}, y ∈ l → w y ≤ (l.map w).sum
  | [], _, h => by cases h
  | x :: l, y, h => by
    simp only [List.map_cons, List.sum_cons]
    rcases List.mem_cons.1 h with e | h
    · rw [e]; omega
    · have := mem_sum w h; omega
end Go.Proofs.Ytihhlgbcbmoblaa
