/- The plain law. -/
import Derived.Test.YtadhmlfnfgpjjaaCP
import Derived.Test.YtadhmlfnfgpjjaaFP
import Derived.KernelRfl
set_option linter.unusedVariables false
set_option linter.unusedSimpArgs false
namespace Go.Proofs.Ytadhmlfnfgpjjaa
open Go Go.Fw
set_option maxRecDepth 1000000

theorem F12_t : F12 = some true := by kernel_rfl

set_option maxRecDepth 100000

open Go Go.Fw
set_option maxRecDepth 100000

def lbS (x : Label) : Bool := decide (x.Key.size ≤ 100) && decide (x.Value.size ≤ 100)
def rqS (x : Requirement) : Bool := decide (x.Key.size ≤ 100) && decide (x.Values.length ≤ 100) && x.Values.all fun v => decide (v.size ≤ 100)
theorem F11_l4_t : ∀ (l : List Label) (i : Nat), F11_l4 l i = some (if l.all lbS = true then .inr () else .inl false)
  | [], i => rfl
  | x :: l, i => by
    rw [F11_l4, F11_l4_t l (i + 1), List.all_cons]
    by_cases h1 : x.Key.size ≤ 100 <;> by_cases h2 : x.Value.size ≤ 100
    all_goals
      have e1 : (100 < (x.Key.size : Int)) ↔ ¬ x.Key.size ≤ 100 := by omega
      have e2 : (100 < (x.Value.size : Int)) ↔ ¬ x.Value.size ≤ 100 := by omega
      simp only [e1, e2, h1, h2, lbS, not_true_eq_false, not_false_eq_true, if_true, if_false, Option.bind_some, decide_true, decide_false, Bool.and_true, Bool.true_and, Bool.and_false, Bool.false_and, Bool.false_eq_true, Option.map_some]
theorem F11_l15_t : ∀ (l : List ByteArray) (i : Nat), F11_l15 l i = some (if (l.all fun v => decide (v.size ≤ 100)) = true then .inr () else .inl (.inl false))
  | [], i => rfl
  | x :: l, i => by
    rw [F11_l15, F11_l15_t l (i + 1), List.all_cons]
    have e1 : (100 < (x.size : Int)) ↔ ¬ x.size ≤ 100 := by omega
    by_cases h1 : x.size ≤ 100 <;> simp [e1, h1]
theorem F11_l10_t : ∀ (l : List Requirement) (i : Nat), F11_l10 l i = some (if l.all rqS = true then .inr () else .inl false)
  | [], i => rfl
  | x :: l, i => by
    rw [F11_l10, F11_l10_t l (i + 1), List.all_cons]
    have e1 : (100 < (x.Key.size : Int)) ↔ ¬ x.Key.size ≤ 100 := by omega
    have e2 : (100 < (x.Values.length : Int)) ↔ ¬ x.Values.length ≤ 100 := by omega
    by_cases h1 : x.Key.size ≤ 100
    · by_cases h2 : x.Values.length ≤ 100
      · rw [if_neg (fun h => e1.1 h h1)]
        rw [ck_t (by omega)]
        simp only [Option.bind_some, F11_l15_t, e2, h2, not_true_eq_false, decide_false, Bool.false_eq_true, if_false, rqS, h1, decide_true, Bool.true_and]
        cases hv : x.Values.all fun v => decide (v.size ≤ 100) <;> simp [hv]
      · simp [e1, e2, h1, h2, rqS]
    · simp [e1, h1, rqS]
def small (l : List Label) (s : List Requirement) : Bool := decide (l.length ≤ 40) && decide (s.length ≤ 40) && (l.all lbS && s.all rqS)
theorem F11_t (l : List Label) (s : List Requirement) : F11 l s = some (small l s) := by
  unfold F11 small
  have e1 : (40 < (l.length : Int)) ↔ ¬ l.length ≤ 40 := by omega
  have e2 : (40 < (s.length : Int)) ↔ ¬ s.length ≤ 40 := by omega
  by_cases h1 : l.length ≤ 40
  · by_cases h2 : s.length ≤ 40
    · rw [if_neg (fun h => e1.1 h h1), ck_t (by omega), ck_t (by omega)]
      simp only [Option.bind_some, F11_l4_t, F11_l10_t, e2, h2, not_true_eq_false, decide_false, Bool.false_eq_true, if_false, h1, decide_true, Bool.true_and]
      cases hv : l.all lbS <;> cases hw : s.all rqS <;> simp
    · simp [e1, e2, h1, h2]
  · simp [e1, h1]

theorem F18_l1_e (k : ByteArray) : ∀ (l : List Label) (i : Nat), F18_l1 k l i = F17_l1 k l i
  | [], i => rfl
  | x :: l, i => by rw [F18_l1, F17_l1, F18_l1_e k l]
theorem F18_e (l : List Label) (k : ByteArray) : F18 l k = F17 l k := by unfold F18 F17; simp only [F18_l1_e] <;> rfl
def getL (l : List Label) (k : ByteArray) : ByteArray × Bool := match l.find? fun x => decide (x.Key = k) with | some x => (x.Value, true) | none => (⟨#[]⟩, false)
theorem F17_l1_t (k : ByteArray) : ∀ (l : List Label) (i : Nat), F17_l1 k l i = some (match l.find? fun x => decide (x.Key = k) with | some x => .inl (x.Value, true) | none => .inr ())
  | [], i => rfl
  | x :: l, i => by
    rw [F17_l1, F17_l1_t k l, List.find?_cons]
    by_cases h : x.Key = k <;> simp [h]
theorem F17_t (l : List Label) (k : ByteArray) (h : l.length ≤ 4294967290) : F17 l k = some (getL l k) := by
  unfold F17 getL
  rw [ck_t (by omega), Option.bind_some, F17_l1_t]
  cases l.find? fun x => decide (x.Key = k) <;> rfl
theorem F71_l1_t (v : ByteArray) : ∀ (l : List ByteArray) (i : Nat), ∃ r, F71_l1 v l i = some r ∧ (l.any (fun x => decide (x = v)) = false → r = .inr ()) ∧ (l.any (fun x => decide (x = v)) = true → ∃ j : Nat, r = .inl (j : Int))
  | [], i => ⟨_, rfl, fun _ => rfl, fun h => by simp at h⟩
  | x :: l, i => by
    rw [F71_l1, List.any_cons]
    by_cases h : v = x
    · subst h
      rw [if_pos rfl]
      exact ⟨_, rfl, fun h => by simp at h, fun _ => ⟨i, rfl⟩⟩
    · rw [if_neg h]
      have : ¬ x = v := fun e => h e.symm
      simpa [this] using F71_l1_t v l (i + 1)
theorem F57_t (l : List ByteArray) (v : ByteArray) (h : l.length ≤ 4294967290) : F57 l v = some (l.any fun x => decide (x = v)) := by
  unfold F57 F71
  obtain ⟨r, h1, h2, h3⟩ := F71_l1_t v l 0
  rw [ck_t (by omega), Option.bind_some, h1]
  cases hv : l.any fun x => decide (x = v)
  · rw [h2 hv]; rfl
  · obtain ⟨j, rfl⟩ := h3 hv
    simp
theorem F58_l1_t (v : ByteArray) : ∀ (l : List ByteArray) (i : Nat), F58_l1 v l i = some (if l.any (fun x => decide (x = v)) = true then .inl true else .inr ())
  | [], i => rfl
  | x :: l, i => by
    rw [F58_l1, F58_l1_t v l, List.any_cons]
    by_cases h : x = v
    · simp [h]
    · rw [if_neg h, decide_eq_false h, Bool.false_or]
theorem F58_t (l : List ByteArray) (v : ByteArray) (h : l.length ≤ 4294967290) : F58 l v = some (l.any fun x => decide (x = v)) := by
  unfold F58
  rw [ck_t (by omega), Option.bind_some, F58_l1_t]
  cases l.any fun x => decide (x = v) <;> rfl
def holdsR (r : Requirement) (l : List Label) : Bool :=
  if r.Op = 1 then (getL l r.Key).2 && r.Values.any (fun x => decide (x = (getL l r.Key).1))
  else if r.Op = 2 then !(getL l r.Key).2 || !r.Values.any (fun x => decide (x = (getL l r.Key).1))
  else if r.Op = 3 then (getL l r.Key).2 else if r.Op = 4 then !(getL l r.Key).2 else false
theorem F38_t (r : Requirement) (l : List Label) (hl : l.length ≤ 4294967290) (hr : r.Values.length ≤ 4294967290) : F38 r l = some (holdsR r l) := by
  unfold F38 holdsR
  simp only [F17_t l _ hl, Option.bind_some, F57_t _ _ hr, nb_not]
  by_cases h1 : r.Op = 1
  · simp only [h1, if_true]
    cases (getL l r.Key).2 <;> simp
  by_cases h2 : r.Op = 2
  · simp only [h2, show ¬ ((2 : Int) = 1) from by omega, if_false, if_true]
    cases (getL l r.Key).2 <;> simp
  simp only [h1, h2, if_false]
  split <;> (try split) <;> rfl
theorem F39_t (r : Requirement) (l : List Label) (hl : l.length ≤ 4294967290) (hr : r.Values.length ≤ 4294967290) : F39 r l = some (holdsR r l) := by
  unfold F39 holdsR
  simp only [F18_e, F17_t l _ hl, Option.bind_some, F58_t _ _ hr, nb_not]
  by_cases h1 : r.Op = 1
  · simp only [h1, if_true]
    cases (getL l r.Key).2 <;> simp
  by_cases h2 : r.Op = 2
  · simp only [h2, show ¬ ((2 : Int) = 1) from by omega, if_false, if_true]
    cases (getL l r.Key).2 <;> simp
  simp only [h1, h2, if_false]
  by_cases h3 : r.Op = 3
  · simp only [h3, show ¬ ((3 : Int) = 4) from by omega, if_false, if_true]
    cases (getL l r.Key).2 <;> rfl
  · simp only [h3, if_false]
    split <;> rfl
theorem F22_l1_t (l : List Label) (hl : l.length ≤ 4294967290) : ∀ (s : List Requirement) (i : Nat), (∀ r ∈ s, r.Values.length ≤ 4294967290) → F22_l1 l s i = some (if s.all (fun r => holdsR r l) = true then .inr () else .inl false)
  | [], i, _ => rfl
  | x :: s, i, h => by
    rw [F22_l1, F22_l1_t l hl s _ fun r hr => h r (List.mem_cons_of_mem _ hr), F38_t x l hl (h x (List.mem_cons_self ..)), List.all_cons]
    simp only [Option.bind_some, nb_not]
    cases holdsR x l <;> simp
def matL (s : List Requirement) (l : List Label) : Bool := s.all fun r => holdsR r l
theorem F22_t (s : List Requirement) (l : List Label) (hs : s.length ≤ 4294967290) (hl : l.length ≤ 4294967290) (hr : ∀ r ∈ s, r.Values.length ≤ 4294967290) : F22 s l = some (matL s l) := by
  unfold F22 matL
  rw [ck_t (by omega), Option.bind_some, F22_l1_t l hl s 0 hr]
  cases s.all fun r => holdsR r l <;> rfl
theorem F23_l1_e (l : List Label) (hl : l.length ≤ 4294967290) : ∀ (s : List Requirement) (i : Nat), (∀ r ∈ s, r.Values.length ≤ 4294967290) → F23_l1 l s i = F22_l1 l s i
  | [], i, _ => rfl
  | x :: s, i, h => by
    rw [F23_l1, F22_l1, F23_l1_e l hl s _ fun r hr => h r (List.mem_cons_of_mem _ hr), F38_t x l hl (h x (List.mem_cons_self ..)), F39_t x l hl (h x (List.mem_cons_self ..))]
theorem F23_t (s : List Requirement) (l : List Label) (hs : s.length ≤ 4294967290) (hl : l.length ≤ 4294967290) (hr : ∀ r ∈ s, r.Values.length ≤ 4294967290) : F23 s l = some (matL s l) := by
  rw [← F22_t s l hs hl hr]; unfold F23 F22
  rw [F23_l1_e l hl s 0 hr] <;> rfl
theorem small_l {l s} (h : small l s = true) : l.length ≤ 40 := by simp [small] at h; exact h.1.1
theorem small_s {l s} (h : small l s = true) : s.length ≤ 40 := by simp [small] at h; exact h.1.2
theorem small_v {l s} (h : small l s = true) {r : Requirement} (hr : r ∈ s) : r.Key.size ≤ 100 ∧ r.Values.length ≤ 100 ∧ ∀ v ∈ r.Values, v.size ≤ 100 := by
  simp only [small, Bool.and_eq_true, List.all_eq_true] at h
  have := h.2.2 r hr
  simp only [rqS, Bool.and_eq_true, List.all_eq_true, decide_eq_true_eq] at this
  exact ⟨this.1.1, this.1.2, this.2⟩
theorem LabelMatches_pure : LabelMatches.Pure := by
  intro s l _ _ _
  unfold F5
  simp only [F11_t, F12_t, Option.bind_some]
  cases h : small l s
  · rfl
  have h1 := small_l h
  have h2 := small_s h
  have h3 : ∀ r ∈ s, r.Values.length ≤ 4294967290 := fun r hr => by have := (small_v h hr).2.1; omega
  rw [F22_t s l (by omega) (by omega) h3, F23_t s l (by omega) (by omega) h3]
  cases matL s l <;> rfl
open Go Go.Fw
set_option maxRecDepth 100000

open Go Go.Fw
set_option maxRecDepth 100000

open Go Go.Fw
set_option maxRecDepth 100000

open Go Go.Fw
set_option maxRecDepth 100000

open Go Go.Fw
set_option maxRecDepth 100000

end Go.Proofs.Ytadhmlfnfgpjjaa
