/- The plain laws, part 2. -/
import Derived.Test.YtkgjaknjpdkaeaaQ

set_option linter.unusedVariables false
set_option linter.unusedSimpArgs false
namespace Go.Proofs.Ytkgjaknjpdkaeaa
open Go Go.Fw
set_option maxRecDepth 100000

section
variable {α : Type}

/-! Lists in order, searched by halves. -/
def S (c : α → Int) (l : List α) : Prop := l.Pairwise fun a b => c b ≤ 0 → c a < 0
def plc (c : α → Int) : List α → Nat
  | [] => 0
  | y :: l => if c y < 0 then plc c l + 1 else 0
theorem plc_le (c : α → Int) : ∀ l, plc c l ≤ l.length
  | [] => Nat.le_refl _
  | y :: l => by have := plc_le c l; unfold plc; split <;> simp <;> omega
theorem plc_iff {c : α → Int} : ∀ {l : List α}, S c l → ∀ i (h : i < l.length), c l[i] < 0 ↔ i < plc c l
  | [], _, i, h => absurd h (by simp)
  | y :: l, hs, 0, h => by
    unfold plc
    by_cases hc : c y < 0 <;> simp [hc]
  | y :: l, hs, i + 1, h => by
    have hs2 := List.pairwise_cons.1 hs
    have ih := plc_iff hs2.2 i (by simpa using h)
    simp only [List.getElem_cons_succ]
    unfold plc
    by_cases hc : c y < 0
    · rw [if_pos hc, ih]; omega
    · rw [if_neg hc]
      exact ⟨fun hi => absurd (hs2.1 _ (List.getElem_mem (by simpa using h)) (Int.le_of_lt hi)) hc, fun hi => by omega⟩

def mid (a b : Int) : Int := IntKind.i64.wrap (shrV .u64 (IntKind.u64.wrap (IntKind.i64.wrap (a + b))) 1)
theorem mid_eq {a b : Nat} (h : a + b ≤ 4000000) : mid (a : Int) (b : Int) = (((a + b) / 2 : Nat) : Int) := by
  unfold mid shrV
  rw [show IntKind.i64.wrap ((a : Int) + b) = (a : Int) + b from wrapI (by omega) (by omega)]
  have e : IntKind.u64.wrap ((a : Int) + b) = ((a + b : Nat) : Int) := by simp [IntKind.wrap, IntKind.bits, IntKind.signed]; omega
  rw [e]
  have e2 : ((a + b : Nat) : Int).fdiv (2 ^ (min (1 : Int).toNat IntKind.u64.bits)) = (((a + b) / 2 : Nat) : Int) := by
    show ((a + b : Nat) : Int).fdiv 2 = _
    rw [Int.fdiv_eq_ediv_of_nonneg _ (by omega)]; omega
  rw [e2, wrapI (by omega) (by omega)]

def bsL (c : α → Int) (xs : List α) : Nat → Int → Int → Option Int
  | 0, _, _ => none
  | k + 1, a, b => if a < b then (rdI xs (mid a b)).bind fun y => if c y < 0 then bsL c xs k (IntKind.i64.wrap (mid a b + 1)) b else bsL c xs k a (mid a b) else some a
theorem bsL_spec {c : α → Int} {xs : List α} (hs : S c xs) (hl : xs.length ≤ 1000000) : ∀ (k a b : Nat), b - a < k → a ≤ plc c xs → plc c xs ≤ b → b ≤ xs.length → bsL c xs k (a : Int) (b : Int) = some (plc c xs : Int)
  | 0, a, b, h, _, _, _ => by omega
  | k + 1, a, b, h, h1, h2, h3 => by
    unfold bsL
    by_cases hab : a < b
    · have hm : (a + b) / 2 < xs.length := by omega
      rw [if_pos (by omega), mid_eq (by omega), rdI_at hm, Option.bind_some]
      have hi := plc_iff hs ((a + b) / 2) hm
      by_cases hc : c xs[(a + b) / 2] < 0
      · rw [if_pos hc]
        have e : IntKind.i64.wrap ((((a + b) / 2 : Nat) : Int) + 1) = (((a + b) / 2 + 1 : Nat) : Int) := wrapN (by omega)
        rw [e]
        exact bsL_spec hs hl k _ b (by omega) (by have := hi.1 hc; omega) h2 h3
      · rw [if_neg hc]
        exact bsL_spec hs hl k a _ (by omega) h1 (by have := mt hi.2 hc; omega) (by omega)
    · rw [if_neg (by omega)]; congr 1; omega

def hasC (c : α → Int) (l : List α) : Bool := l.any fun y => decide (c y = 0)
theorem hasC_cons (c : α → Int) (y : α) (l : List α) : hasC c (y :: l) = (decide (c y = 0) || hasC c l) := by simp [hasC]
theorem hasC_gt {c : α → Int} {l : List α} (h : ∀ y ∈ l, 0 < c y) : hasC c l = false := by
  simp only [hasC, List.any_eq_false, decide_eq_true_eq]
  intro y hy; have := h y hy; omega
theorem find_at {c : α → Int} : ∀ {l : List α}, S c l → ((l[plc c l]?).map fun y => decide (c y = 0)).getD false = hasC c l
  | [], _ => rfl
  | y :: l, hs => by
    have hs2 := List.pairwise_cons.1 hs
    have ih := find_at hs2.2
    rw [hasC_cons]
    unfold plc
    by_cases hc : c y < 0
    · rw [if_pos hc, List.getElem?_cons_succ, ih]; simp; omega
    · rw [if_neg hc]
      simp only [List.getElem?_cons_zero, Option.map_some, Option.getD_some]
      rw [hasC_gt]; · simp
      intro z hz
      have := hs2.1 z hz
      omega
theorem find_t {c : α → Int} {l : List α} (hs : S c l) : (if (plc c l : Int) < (l.length : Int) then (rdI l (plc c l : Int)).bind fun y => some (decide (c y = 0)) else some false) = some (hasC c l) := by
  have h := find_at hs
  by_cases hp : plc c l < l.length
  · rw [if_pos (by omega), rdI_at hp, Option.bind_some]
    rw [List.getElem?_eq_getElem hp] at h
    simp only [Option.map_some, Option.getD_some] at h
    rw [h]
  · rw [if_neg (by omega)]
    rw [List.getElem?_eq_none (by omega)] at h
    simp only [Option.map_none, Option.getD_none] at h
    rw [← h]

def insC (c : α → Int) (x : α) : List α → List α
  | [] => [x]
  | y :: l => if c y < 0 then y :: insC c x l else x :: y :: l
theorem insC_plc (c : α → Int) (x : α) : ∀ l, l.take (plc c l) ++ x :: l.drop (plc c l) = insC c x l
  | [] => rfl
  | y :: l => by
    unfold insC plc
    split
    · rw [← insC_plc c x l]; simp
    · simp
theorem insC_len (c : α → Int) (x : α) (l : List α) : (insC c x l).length = l.length + 1 := by
  rw [← insC_plc]; have := plc_le c l; simp; omega
theorem insC_mem (c : α → Int) (x z : α) : ∀ l, z ∈ insC c x l ↔ z = x ∨ z ∈ l
  | [] => by simp [insC]
  | y :: l => by
    have := insC_mem c x z l
    unfold insC
    split
    · simp only [List.mem_cons, this]; exact ⟨fun h => h.elim (fun h => .inr (.inl h)) fun h => h.elim .inl fun h => .inr (.inr h), fun h => h.elim (fun h => .inr (.inl h)) fun h => h.elim .inl fun h => .inr (.inr h)⟩
    · simp
theorem insC_pw {R : α → α → Prop} {c : α → Int} {x : α} (ht : ∀ a b d, R a b → R b d → R a d) : ∀ {l : List α}, (∀ y ∈ l, c y < 0 → R y x) → (∀ y ∈ l, ¬ c y < 0 → R x y) → l.Pairwise R → (insC c x l).Pairwise R
  | [], _, _, _ => by simp [insC]
  | y :: l, h1, h2, hp => by
    have hp2 := List.pairwise_cons.1 hp
    unfold insC
    split
    · rename_i hc
      refine List.pairwise_cons.2 ⟨fun z hz => ?_, insC_pw ht (fun z hz => h1 z (List.mem_cons_of_mem _ hz)) (fun z hz => h2 z (List.mem_cons_of_mem _ hz)) hp2.2⟩
      rcases (insC_mem c x z l).1 hz with rfl | hz
      · exact h1 y (List.mem_cons_self ..) hc
      · exact hp2.1 z hz
    · rename_i hc
      have hxy := h2 y (List.mem_cons_self ..) hc
      refine List.pairwise_cons.2 ⟨fun z hz => ?_, hp⟩
      rcases List.mem_cons.1 hz with rfl | hz
      · exact hxy
      · exact ht _ _ _ hxy (hp2.1 z hz)
theorem insC_all {c : α → Int} {x : α} : ∀ {l : List α}, (∀ y ∈ l, c y < 0) → insC c x l = l ++ [x]
  | [], _ => rfl
  | y :: l, h => by
    unfold insC
    rw [if_pos (h y (List.mem_cons_self ..)), insC_all fun z hz => h z (List.mem_cons_of_mem _ hz)]; rfl
theorem insC_last {c : α → Int} {x a : α} (ha : ¬ c a < 0) : ∀ l : List α, insC c x (l ++ [a]) = insC c x l ++ [a]
  | [] => by simp [insC, ha]
  | y :: l => by
    simp only [List.cons_append, insC]
    split
    · rw [insC_last ha l]; rfl
    · rfl
theorem insC_congr {c d : α → Int} {x : α} : ∀ {l : List α}, (∀ y ∈ l, c y < 0 ↔ d y < 0) → insC c x l = insC d x l
  | [], _ => rfl
  | y :: l, h => by
    unfold insC
    rw [insC_congr (l := l) fun z hz => h z (List.mem_cons_of_mem _ hz)]
    have := h y (List.mem_cons_self ..)
    by_cases hc : c y < 0
    · rw [if_pos hc, if_pos (this.1 hc)]
    · rw [if_neg hc, if_neg (mt this.2 hc)]

theorem rem_C {c : α → Int} : ∀ {l : List α}, S c l → hasC c l = true → l.take (plc c l) ++ l.drop (plc c l + 1) = l.filter fun y => decide (c y ≠ 0)
  | [], _, h => by simp [hasC] at h
  | y :: l, hs, h => by
    have hs2 := List.pairwise_cons.1 hs
    rw [hasC_cons] at h
    unfold plc
    by_cases hc : c y < 0
    · rw [if_pos hc, List.filter_cons_of_pos (by simp; omega), ← rem_C hs2.2 (by simp at h; rcases h with h | h <;> first | omega | exact h)]
      simp
    · rw [if_neg hc]
      have hg : ∀ z ∈ l, 0 < c z := fun z hz => by have := hs2.1 z hz; omega
      rw [hasC_gt hg] at h
      simp at h
      rw [List.filter_cons_of_neg (by simp [h]), List.filter_eq_self.2 fun z hz => by have := hg z hz; simp; omega]
      simp
theorem rem_N {c : α → Int} {l : List α} (h : hasC c l = false) : l.filter (fun y => decide (c y ≠ 0)) = l := by
  simp only [hasC, List.any_eq_false, decide_eq_true_eq] at h
  exact List.filter_eq_self.2 fun z hz => by simpa using h z hz
theorem hasC_iff {c : α → Int} {l : List α} : hasC c l = true ↔ ∃ y ∈ l, c y = 0 := by simp [hasC]

/-- The last one sinks to its place. -/
def bub (r : α → Bool) (x : α) : List α → List α → List α
  | [], B => x :: B
  | a :: A, B => if r a = true then (a :: A).reverse ++ x :: B else bub r x A (a :: B)
theorem bub_eq {c : α → Int} {r : α → Bool} {x : α} : ∀ (A B : List α), (∀ a ∈ A, r a = decide (c a < 0)) → A.Pairwise (fun b a => c b < 0 → c a < 0) → bub r x A B = insC c x A.reverse ++ B
  | [], B, _, _ => rfl
  | a :: A, B, hr, hp => by
    have hp2 := List.pairwise_cons.1 hp
    unfold bub
    rw [hr a (List.mem_cons_self ..), List.reverse_cons]
    by_cases hc : c a < 0
    · rw [if_pos (by simpa using hc), insC_all]
      · simp
      · intro y hy
        simp only [List.mem_append, List.mem_reverse, List.mem_singleton] at hy
        rcases hy with hy | rfl
        · exact hp2.1 y hy hc
        · exact hc
    · rw [if_neg (by simpa using hc), insC_last hc, bub_eq A (a :: B) (fun y hy => hr y (List.mem_cons_of_mem _ hy)) hp2.2]
      simp
end
end Go.Proofs.Ytkgjaknjpdkaeaa
