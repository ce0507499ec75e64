/- The plain laws, part 3. -/
import Derived.Test.YtpgonamdmlgifaaQ2
set_option linter.unusedVariables false
set_option linter.unusedSimpArgs false
namespace Go.Proofs.Ytpgonamdmlgifaa
open Go Go.Fw
set_option maxRecDepth 100000

/-! Items by key. -/
def flt (k : ByteArray) (l : List W) : List W := l.filter (fun x => decide (x.Key ≠ k))
theorem flt_len (k : ByteArray) (l : List W) : (flt k l).length ≤ l.length := List.length_filter_le ..
def fi (k : ByteArray) : List W → Nat
  | [] => 0
  | y :: l => if y.Key = k then 0 else fi k l + 1
theorem fi_le (k : ByteArray) : ∀ l, fi k l ≤ l.length
  | [] => Nat.le_refl _
  | y :: l => by have := fi_le k l; unfold fi; split <;> simp <;> omega
theorem flt_none {k : ByteArray} {l : List W} (h : ∀ y ∈ l, y.Key ≠ k) : flt k l = l := List.filter_eq_self.2 fun y hy => by simpa using h y hy
theorem flt_ne (k : ByteArray) (l : List W) : ∀ y ∈ flt k l, y.Key ≠ k := fun y hy => by simpa using (List.mem_filter.1 hy).2
theorem fi_none (k : ByteArray) : ∀ {l : List W}, ¬ fi k l < l.length → ∀ y ∈ l, y.Key ≠ k
  | [], _, y, hy => by cases hy
  | z :: l, h, y, hy => by
    unfold fi at h
    by_cases h1 : z.Key = k
    · rw [if_pos h1] at h; simp at h
    · rw [if_neg h1] at h
      rcases List.mem_cons.1 hy with rfl | hy
      · exact h1
      · exact fi_none k (by simp at h; omega) y hy
theorem fi_at (k : ByteArray) : ∀ {l : List W}, fi k l < l.length → ∃ y, l[fi k l]? = some y ∧ y.Key = k
  | [], h => by simp at h
  | z :: l, h => by
    unfold fi at h ⊢
    by_cases h1 : z.Key = k
    · rw [if_pos h1]; exact ⟨z, rfl, h1⟩
    · rw [if_neg h1] at h ⊢
      obtain ⟨y, h2, h3⟩ := fi_at k (l := l) (by simp at h; omega)
      exact ⟨y, by simpa using h2, h3⟩
/-- Keys that are there once. -/
def Uq (l : List W) : Prop := l.Pairwise fun a b => a.Key ≠ b.Key
theorem fi_del {k : ByteArray} : ∀ {l : List W}, Uq l → fi k l < l.length → l.take (fi k l) ++ l.drop (fi k l + 1) = flt k l
  | [], _, h => by simp at h
  | z :: l, hu, h => by
    have hu2 := List.pairwise_cons.1 hu
    unfold fi at h ⊢
    by_cases h1 : z.Key = k
    · rw [if_pos h1]
      have : flt k (z :: l) = flt k l := by unfold flt; rw [List.filter_cons_of_neg (by simpa using h1)]
      rw [this, flt_none fun y hy e => hu2.1 y hy (by rw [h1, e])]; simp
    · rw [if_neg h1] at h ⊢
      have : flt k (z :: l) = z :: flt k l := by unfold flt; rw [List.filter_cons_of_pos (by simpa using h1)]
      rw [this, ← fi_del hu2.2 (by simp at h; omega)]; simp
theorem F46_l1_spec (b : ByteArray) (l : List W) : ∀ n i, l.length = i + n → F46_l1 b l (l.drop i) i = some (if fi b (l.drop i) < (l.drop i).length then .inl ((i + fi b (l.drop i) : Nat) : Int) else .inr ())
  | 0, i, h => by rw [List.drop_of_length_le (by omega)]; rfl
  | n + 1, i, h => by
    have hi : i < l.length := by omega
    have ih := F46_l1_spec b l n (i + 1) (by omega)
    rw [List.drop_eq_getElem_cons hi, F46_l1, rdI_at hi]
    simp only [Option.bind_some, F47]
    by_cases h1 : l[i].Key = b
    · have e : fi b (l[i] :: l.drop (i + 1)) = 0 := by rw [fi, if_pos h1]
      rw [if_pos h1, e, if_pos (by simp only [List.length_cons]; omega)]; rfl
    · have e : fi b (l[i] :: l.drop (i + 1)) = fi b (l.drop (i + 1)) + 1 := by rw [fi, if_neg h1]
      rw [if_neg h1, e, ih, List.length_cons]
      by_cases h2 : fi b (l.drop (i + 1)) < (l.drop (i + 1)).length
      · rw [if_pos h2, if_pos (by omega)]; congr 3; omega
      · rw [if_neg h2, if_neg (by omega)]
theorem F46_spec (l : List W) (b : ByteArray) (hb : l.length ≤ 1000000) : F46 l b = some (if fi b l < l.length then (fi b l : Int) else -1) := by
  have := F46_l1_spec b l l.length 0 (by omega)
  rw [List.drop_zero] at this
  unfold F46
  rw [ck_t ⟨Nat.zero_le _, by omega⟩, Option.bind_some, this, Option.bind_some]
  by_cases h : fi b l < l.length
  · rw [if_pos h, if_pos h]; simp
  · rw [if_neg h, if_neg h]
theorem F55_l1_spec (k : ByteArray) : ∀ (l : List W) (i : Nat), F55_l1 k l i = some (match l[fi k l]? with | some y => .inl (y.At, true) | none => .inr ())
  | [], i => rfl
  | y :: l, i => by
    rw [F55_l1]
    by_cases h1 : y.Key = k
    · have e : fi k (y :: l) = 0 := by rw [fi, if_pos h1]
      rw [if_pos h1, e]; rfl
    · have e : fi k (y :: l) = fi k l + 1 := by rw [fi, if_neg h1]
      rw [if_neg h1, e, F55_l1_spec k l (i + 1)]; rfl
theorem F55_spec (l : List W) (k : ByteArray) (hb : l.length ≤ 1000000) : F55 l k = some (match l[fi k l]? with | some y => (y.At, true) | none => (0, false)) := by
  unfold F55
  rw [ck_t ⟨Nat.zero_le _, by omega⟩, Option.bind_some, F55_l1_spec, Option.bind_some]
  cases l[fi k l]? <;> rfl
theorem F57_l1_spec (k : ByteArray) : ∀ (l : List W) (i : Nat) (out : List W), out.length + l.length ≤ 1000000 → F57_l1 k l i out = some (out ++ flt k l)
  | [], i, out, _ => by simp [F57_l1, flt]
  | y :: l, i, out, h => by
    simp only [List.length_cons] at h
    rw [F57_l1]
    by_cases hy : y.Key = k
    · rw [if_neg (by simpa using hy)]
      simp only [Option.bind_some]
      rw [F57_l1_spec k l (i + 1) out (by omega)]
      simp [flt, hy]
    · rw [if_pos hy, apI_t (by simp; omega)]
      simp only [Option.bind_some]
      rw [F57_l1_spec k l (i + 1) _ (by simp; omega)]
      simp [flt, hy]
theorem F57_spec (l : List W) (k : ByteArray) (h : l.length ≤ 1000000) : F57 l k = some (flt k l) := by
  unfold F57
  rw [ck_t ⟨Nat.zero_le _, by omega⟩, Option.bind_some, F57_l1_spec k l 0 [] (by simp; omega)]; rfl

/-! The reference's insertion. -/
def bef (b : Bool) (x a : W) : Bool := if b then decide (cT x a < 0) else decide (cK x.Key a < 0)
theorem bef_eq (b : Bool) (y5 y6 : W) (hk : y5.Key ≠ y6.Key) : (if b = true then (if y5.At < y6.At then some true else (if y5.At = y6.At then (if (Op.bytesLess y5.Key.toList y6.Key.toList) = true then some true else (if (nb b) = true then some (Op.bytesLess y5.Key.toList y6.Key.toList) else some false)) else (if (nb b) = true then some (Op.bytesLess y5.Key.toList y6.Key.toList) else some false))) else (if (nb b) = true then some (Op.bytesLess y5.Key.toList y6.Key.toList) else some false)) = some (bef b y6 y5) := by
  cases b with
  | false =>
    simp only [Bool.false_eq_true, if_false, nb_not, Bool.not_false, if_true, bef, bl_lt]
    congr 1; exact decide_eq_decide.2 (scmp_neg _ _).symm
  | true =>
    simp only [if_true, nb_not, Bool.not_true, Bool.false_eq_true, if_false, bef, bl_lt, decide_eq_true_eq]
    have := cT_neg y6 y5
    unfold ltW at this
    by_cases h1 : y5.At < y6.At
    · rw [if_pos h1]; simp [this, h1]
    · rw [if_neg h1]
      by_cases h2 : y5.At = y6.At
      · rw [if_pos h2]
        by_cases h3 : lt y5.Key y6.Key
        · rw [if_pos h3]; simp [this, h2, h3]
        · rw [if_neg h3]; simp [this, h2, h3]
      · rw [if_neg h2]; simp [this, h1, h2]
theorem F56_l3_spec (b : Bool) (x : W) : ∀ (A B : List W) (k : Nat), (∀ a ∈ A, a.Key ≠ x.Key) → A.length + B.length ≤ 1000000 → A.length < k → F56_l3 b k (A.reverse ++ x :: B) (A.length : Int) = some (bub (bef b x) x A B)
  | _, _, 0, _, _, h => by omega
  | [], B, k + 1, _, _, _ => by rw [F56_l3, if_neg (by simp)]; rfl
  | a :: A, B, k + 1, hk, hl, hlt => by
    simp only [List.length_cons] at hl hlt ⊢
    have e1 : IntKind.i64.wrap (((A.length + 1 : Nat) : Int) - 1) = (A.length : Int) := by rw [wrapI (by omega) (by omega)]; omega
    rw [F56_l3, if_pos (by omega), e1]
    have hL : (a :: A).reverse ++ x :: B = A.reverse ++ a :: x :: B := by simp
    rw [hL]
    have g1 : (A.reverse ++ a :: x :: B)[A.length]? = some a := by simp
    have g2 : (A.reverse ++ a :: x :: B)[A.length + 1]? = some x := by
      rw [List.getElem?_append_right (by simp)]; simp
    have s1 : (A.reverse ++ a :: x :: B).set A.length x = A.reverse ++ x :: x :: B := by
      rw [List.set_append_right _ _ (by simp)]; simp
    have s2 : (A.reverse ++ x :: x :: B).set (A.length + 1) a = A.reverse ++ x :: a :: B := by
      rw [List.set_append_right _ _ (by simp)]; simp
    have g3 : (A.reverse ++ x :: x :: B)[A.length + 1]? = some x := by
      rw [List.getElem?_append_right (by simp)]; simp
    rw [rdI_nat, rdI_nat, g1, g2]
    simp only [Option.bind_some, bef_eq b a x (hk a (List.mem_cons_self ..)), Int.toNat_natCast, s1]
    unfold bub
    by_cases hb : bef b x a = true
    · rw [if_pos hb, if_pos hb]; simp
    · rw [if_neg hb, if_neg hb, rdI_nat, g3]
      simp only [Option.bind_some, s2]
      exact F56_l3_spec b x A (a :: B) k (fun z hz => hk z (List.mem_cons_of_mem _ hz)) (by simp; omega) (by omega)
theorem F56_spec (b : Bool) (x : W) (l : List W) (c : W → Int) (hc : ∀ a ∈ l, bef b x a = decide (c a < 0)) (hs : l.Pairwise fun a d => c d < 0 → c a < 0) (hk : ∀ a ∈ l, a.Key ≠ x.Key) (hl : l.length ≤ 1000000) : F56 l x b = some (insC c x l) := by
  unfold F56
  rw [apI_t (by simp; omega)]
  simp only [Option.bind_some, List.nil_append]
  rw [apI_t (by simp; omega)]
  simp only [Option.bind_some]
  have e1 : IntKind.i64.wrap (((l ++ [x]).length : Int) - 1) = (l.reverse.length : Int) := by
    simp only [List.length_append, List.length_cons, List.length_nil, List.length_reverse]
    rw [wrapI (by omega) (by omega)]; omega
  have := F56_l3_spec b x l.reverse [] 1099511627776 (by simpa using hk) (by simp; omega) (by simp; omega)
  rw [List.reverse_reverse] at this
  rw [e1, this, bub_eq (c := c) _ _ (by simpa using hc) (List.pairwise_reverse.2 hs)]
  simp
end Go.Proofs.Ytpgonamdmlgifaa
