/- The plain law. -/
import Derived.Test.YtadhmlfnfgpjjaaBP
import Derived.Test.YtadhmlfnfgpjjaaFP
import Derived.KernelRfl
set_option linter.unusedVariables false
set_option linter.unusedSimpArgs false
namespace Go.Proofs.Ytadhmlfnfgpjjaa
open Go Go.Fw
set_option maxRecDepth 1000000

theorem F12_t : F12 = some true := by kernel_rfl

set_option maxRecDepth 100000

open Go Go.Fw
set_option maxRecDepth 100000

def lbS (x : Label) : Bool := decide (x.Key.size ≤ 100) && decide (x.Value.size ≤ 100)
def rqS (x : Requirement) : Bool := decide (x.Key.size ≤ 100) && decide (x.Values.length ≤ 100) && x.Values.all fun v => decide (v.size ≤ 100)
theorem F11_l4_t : ∀ (l : List Label) (i : Nat), F11_l4 l i = some (if l.all lbS = true then .inr () else .inl false)
  | [], i => rfl
  | x :: l, i => by
    rw [F11_l4, F11_l4_t l (i + 1), List.all_cons]
    by_cases h1 : x.Key.size ≤ 100 <;> by_cases h2 : x.Value.size ≤ 100
    all_goals
      have e1 : (100 < (x.Key.size : Int)) ↔ ¬ x.Key.size ≤ 100 := by omega
      have e2 : (100 < (x.Value.size : Int)) ↔ ¬ x.Value.size ≤ 100 := by omega
      simp only [e1, e2, h1, h2, lbS, not_true_eq_false, not_false_eq_true, if_true, if_false, Option.bind_some, decide_true, decide_false, Bool.and_true, Bool.true_and, Bool.and_false, Bool.false_and, Bool.false_eq_true, Option.map_some]
theorem F11_l15_t : ∀ (l : List ByteArray) (i : Nat), F11_l15 l i = some (if (l.all fun v => decide (v.size ≤ 100)) = true then .inr () else .inl (.inl false))
  | [], i => rfl
  | x :: l, i => by
    rw [F11_l15, F11_l15_t l (i + 1), List.all_cons]
    have e1 : (100 < (x.size : Int)) ↔ ¬ x.size ≤ 100 := by omega
    by_cases h1 : x.size ≤ 100 <;> simp [e1, h1]
theorem F11_l10_t : ∀ (l : List Requirement) (i : Nat), F11_l10 l i = some (if l.all rqS = true then .inr () else .inl false)
  | [], i => rfl
  | x :: l, i => by
    rw [F11_l10, F11_l10_t l (i + 1), List.all_cons]
    have e1 : (100 < (x.Key.size : Int)) ↔ ¬ x.Key.size ≤ 100 := by omega
    have e2 : (100 < (x.Values.length : Int)) ↔ ¬ x.Values.length ≤ 100 := by omega
    by_cases h1 : x.Key.size ≤ 100
    · by_cases h2 : x.Values.length ≤ 100
      · rw [if_neg (fun h => e1.1 h h1)]
        rw [ck_t (by omega)]
        simp only [Option.bind_some, F11_l15_t, e2, h2, not_true_eq_false, decide_false, Bool.false_eq_true, if_false, rqS, h1, decide_true, Bool.true_and]
        cases hv : x.Values.all fun v => decide (v.size ≤ 100) <;> simp [hv]
      · simp [e1, e2, h1, h2, rqS]
    · simp [e1, h1, rqS]
def small (l : List Label) (s : List Requirement) : Bool := decide (l.length ≤ 40) && decide (s.length ≤ 40) && (l.all lbS && s.all rqS)
theorem F11_t (l : List Label) (s : List Requirement) : F11 l s = some (small l s) := by
  unfold F11 small
  have e1 : (40 < (l.length : Int)) ↔ ¬ l.length ≤ 40 := by omega
  have e2 : (40 < (s.length : Int)) ↔ ¬ s.length ≤ 40 := by omega
  by_cases h1 : l.length ≤ 40
  · by_cases h2 : s.length ≤ 40
    · rw [if_neg (fun h => e1.1 h h1), ck_t (by omega), ck_t (by omega)]
      simp only [Option.bind_some, F11_l4_t, F11_l10_t, e2, h2, not_true_eq_false, decide_false, Bool.false_eq_true, if_false, h1, decide_true, Bool.true_and]
      cases hv : l.all lbS <;> cases hw : s.all rqS <;> simp
    · simp [e1, e2, h1, h2]
  · simp [e1, h1]

theorem F18_l1_e (k : ByteArray) : ∀ (l : List Label) (i : Nat), F18_l1 k l i = F17_l1 k l i
  | [], i => rfl
  | x :: l, i => by rw [F18_l1, F17_l1, F18_l1_e k l]
theorem F18_e (l : List Label) (k : ByteArray) : F18 l k = F17 l k := by unfold F18 F17; simp only [F18_l1_e] <;> rfl
def getL (l : List Label) (k : ByteArray) : ByteArray × Bool := match l.find? fun x => decide (x.Key = k) with | some x => (x.Value, true) | none => (⟨#[]⟩, false)
theorem F17_l1_t (k : ByteArray) : ∀ (l : List Label) (i : Nat), F17_l1 k l i = some (match l.find? fun x => decide (x.Key = k) with | some x => .inl (x.Value, true) | none => .inr ())
  | [], i => rfl
  | x :: l, i => by
    rw [F17_l1, F17_l1_t k l, List.find?_cons]
    by_cases h : x.Key = k <;> simp [h]
theorem F17_t (l : List Label) (k : ByteArray) (h : l.length ≤ 4294967290) : F17 l k = some (getL l k) := by
  unfold F17 getL
  rw [ck_t (by omega), Option.bind_some, F17_l1_t]
  cases l.find? fun x => decide (x.Key = k) <;> rfl
theorem small_l {l s} (h : small l s = true) : l.length ≤ 40 := by simp [small] at h; exact h.1.1
open Go Go.Fw
set_option maxRecDepth 100000

def ne (k : ByteArray) (x : Label) : Bool := !decide (x.Key = k)
def gt (k : ByteArray) (x : Label) : Bool := decide (lt k x.Key)
def insK (y : Label) : List Label → List Label
  | [] => [y]
  | x :: r => if lt y.Key x.Key then y :: x :: r else x :: insK y r
def withL (l : List Label) (k v : ByteArray) : List Label := insK ⟨k, v⟩ (l.filter (ne k))
theorem F20_l2_at (k : ByteArray) (n : Nat) : ∀ (l : List Label) (i : Nat) (o : List Label), o.length + l.length ≤ 1000 → F20_l2 k l i o (n : Int) = some (o ++ l.filter (ne k), (n : Int))
  | [], i, o, _ => by simp [F20_l2]
  | x :: l, i, o, h => by
    simp only [List.length_cons] at h
    rw [F20_l2, List.filter_cons]
    by_cases hx : x.Key = k
    · rw [if_pos hx]
      simp only [Option.bind_some]
      rw [F20_l2_at k n l _ o (by omega)]
      simp [ne, hx]
    · rw [if_neg hx, if_neg (show ¬ (n : Int) < 0 by omega)]
      simp only [Option.bind_some, Bool.false_eq_true, if_false]
      rw [apI_t (by simp; omega)]
      simp only [Option.bind_some]
      rw [F20_l2_at k n l _ (o ++ [x]) (by simp; omega)]
      simp [ne, hx]
theorem F20_l2_t (k : ByteArray) : ∀ (l : List Label) (i : Nat) (o : List Label), o.length + l.length ≤ 1000 →
    F20_l2 k l i o (-1) = some (o ++ l.filter (ne k), match (l.filter (ne k)).findIdx? (gt k) with | none => -1 | some j => ((o.length + j : Nat) : Int))
  | [], i, o, _ => by simp [F20_l2]
  | x :: l, i, o, h => by
    simp only [List.length_cons] at h
    rw [F20_l2, List.filter_cons]
    by_cases hx : x.Key = k
    · rw [if_pos hx]
      simp only [Option.bind_some]
      rw [F20_l2_t k l _ o (by omega)]
      simp [ne, hx]
    · rw [if_neg hx, if_pos (show (-1 : Int) < 0 by omega)]
      have hn : ne k x = true := by simp [ne, hx]
      simp only [Option.bind_some, nb_le, hn, if_true]
      by_cases hg : lt k x.Key
      · simp only [hg, decide_true, if_true, Option.bind_some]
        rw [apI_t (by simp; omega)]
        simp only [Option.bind_some]
        rw [F20_l2_at k o.length l _ (o ++ [x]) (by simp; omega)]
        have : gt k x = true := by simp [gt, hg]
        simp [List.findIdx?_cons, this]
      · simp only [hg, decide_false, Bool.false_eq_true, if_false, Option.bind_some]
        rw [apI_t (by simp; omega)]
        simp only [Option.bind_some]
        rw [F20_l2_t k l _ (o ++ [x]) (by simp; omega)]
        have : gt k x = false := by simp [gt, hg]
        simp only [List.findIdx?_cons, this, Bool.false_eq_true, if_false, List.append_assoc, List.singleton_append]
        cases (l.filter (ne k)).findIdx? (gt k) with
        | none => simp
        | some j =>
          simp only [Option.map_some, List.length_append, List.length_singleton]
          rw [show o.length + 1 + j = o.length + (j + 1) by omega]
theorem insK_idx (y : Label) : ∀ r : List Label, insK y r = match r.findIdx? (gt y.Key) with | none => r ++ [y] | some j => r.take j ++ y :: r.drop j
  | [] => rfl
  | x :: r => by
    rw [insK, insK_idx y r, List.findIdx?_cons]
    by_cases h : lt y.Key x.Key
    · have hg : gt y.Key x = true := by simp [gt, h]
      rw [if_pos h, hg]; rfl
    · have hg : gt y.Key x = false := by simp [gt, h]
      rw [if_neg h, hg]
      cases hf : r.findIdx? (gt y.Key) with
      | none => simp
      | some j => simp
theorem F20_t (l : List Label) (k v : ByteArray) (h : l.length ≤ 500) : F20 l k v = some (withL l k v) := by
  unfold F20 withL
  have e1 : IntKind.i64.wrap ((l.length : Int) + 1) = ((l.length + 1 : Nat) : Int) := wrapN (by omega)
  have hfl : (l.filter (ne k)).length ≤ l.length := List.length_filter_le ..
  rw [e1]
  have hm : mkI ((⟨(⟨#[]⟩ : ByteArray), (⟨#[]⟩ : ByteArray)⟩ : Label)) 0 ((l.length + 1 : Nat) : Int) = some [] := by
    unfold mkI; rw [if_pos (by omega)]; rfl
  rw [hm, Option.bind_some, ck_t (by omega)]
  simp only [Option.bind_some]
  rw [F20_l2_t k l 0 [] (by simp; omega), insK_idx]
  simp only [Option.bind_some, List.nil_append, List.length_nil, Nat.zero_add]
  cases hf : (l.filter (ne k)).findIdx? (gt k) with
  | none =>
    simp only [show (-1 : Int) < 0 from by omega, if_true, Option.bind_some]
    unfold insI; rw [if_pos (by omega)]
    simp
  | some j =>
    have hj : j < (l.filter (ne k)).length := by
      have := List.findIdx?_eq_some_iff_getElem.1 hf
      exact this.1
    simp only [show ¬ ((j : Nat) : Int) < 0 from by omega, if_false, Option.bind_some]
    unfold insI; rw [if_pos (by omega)]
    simp
theorem F21_l1_t (k : ByteArray) : ∀ (l : List Label) (i : Nat) (o : List Label), o.length + l.length ≤ 1000 → F21_l1 k l i o = some (o ++ l.filter (ne k))
  | [], i, o, _ => by simp [F21_l1]
  | x :: l, i, o, h => by
    simp only [List.length_cons] at h
    rw [F21_l1, List.filter_cons]
    by_cases hx : x.Key = k
    · rw [if_neg (fun h => h hx)]
      simp only [Option.bind_some]
      rw [F21_l1_t k l _ o (by omega)]
      simp [ne, hx]
    · rw [if_pos hx, apI_t (by simp; omega)]
      simp only [Option.bind_some]
      rw [F21_l1_t k l _ (o ++ [x]) (by simp; omega)]
      simp [ne, hx]
theorem F21_l7_t1 (r : List Label) (k v : ByteArray) : ∀ (n i : Nat) (o : List Label), r.length = i + n → o.length + n ≤ 1000 → F21_l7 r k v (r.drop i) i o true = some (o ++ r.drop i, true)
  | 0, i, o, hl, _ => by rw [List.drop_of_length_le (by omega)]; simp [F21_l7]
  | n + 1, i, o, hl, h => by
    rw [List.drop_eq_getElem_cons (by omega), F21_l7]
    simp only [nb_not, Bool.not_true, Bool.false_eq_true, if_false, Option.bind_some, rdI_at (show i < r.length by omega)]
    rw [apI_t (by simp; omega)]
    simp only [Option.bind_some]
    rw [F21_l7_t1 r k v n (i + 1) _ (by omega) (by simp; omega)]
    simp
theorem F21_l7_t (r : List Label) (k v : ByteArray) : ∀ (n i : Nat) (o : List Label), r.length = i + n → o.length + n ≤ 900 →
    ∃ q b, F21_l7 r k v (r.drop i) i o false = some (q, b) ∧ (if b = true then q else q ++ [⟨k, v⟩]) = o ++ insK ⟨k, v⟩ (r.drop i) ∧ q.length ≤ o.length + n + 1
  | 0, i, o, hl, _ => ⟨o, false, by rw [List.drop_of_length_le (by omega)]; simp [F21_l7], by rw [List.drop_of_length_le (by omega)]; rfl, by omega⟩
  | n + 1, i, o, hl, h => by
    rw [List.drop_eq_getElem_cons (by omega), F21_l7, insK]
    simp only [nb_not, Bool.not_false, if_true, rdI_at (show i < r.length by omega), Option.bind_some]
    have hnl : (!(Op.bytesLess r[i].Key.toList k.toList || decide (r[i].Key = k))) = decide (lt k r[i].Key) := nb_le _ _
    simp only [hnl]
    by_cases hg : lt k r[i].Key
    · simp only [hg, decide_true, if_true]
      rw [apI_t (by simp; omega)]
      simp only [Option.bind_some]
      rw [apI_t (by simp; omega)]
      simp only [Option.bind_some]
      rw [F21_l7_t1 r k v n (i + 1) _ (by omega) (by simp; omega)]
      exact ⟨_, _, rfl, by simp, by simp; omega⟩
    · simp only [hg, decide_false, Bool.false_eq_true, if_false, Option.bind_some]
      rw [apI_t (by simp; omega)]
      simp only [Option.bind_some]
      obtain ⟨q, b, h1, h2, h3⟩ := F21_l7_t r k v n (i + 1) (o ++ [r[i]]) (by omega) (by simp; omega)
      refine ⟨q, b, h1, ?_, by simp at h3; omega⟩
      rw [h2]; simp
theorem F21_t (l : List Label) (k v : ByteArray) (h : l.length ≤ 500) : F21 l k v = some (withL l k v) := by
  unfold F21 withL
  have hfl : (l.filter (ne k)).length ≤ l.length := List.length_filter_le ..
  rw [ck_t (by omega), Option.bind_some, F21_l1_t k l 0 [] (by simp; omega)]
  simp only [Option.bind_some, List.nil_append]
  rw [ck_t (by omega), Option.bind_some]
  obtain ⟨q, b, h1, h2, h3⟩ := F21_l7_t (l.filter (ne k)) k v (l.filter (ne k)).length 0 [] (by omega) (by simp; omega)
  rw [List.drop_zero] at h1 h2
  rw [h1]
  simp only [Option.bind_some, nb_not]
  rw [List.nil_append] at h2
  cases b
  · simp only [Bool.not_false, if_true]
    rw [apI_t (by simp at h3 ⊢; omega)]
    rw [← h2]; rfl
  · rw [← h2]; rfl
theorem F19_l2_t (a : List Label) : ∀ (n i : Nat), a.length = i + n → F19_l2 a (a.drop i) i = some (.inr ())
  | 0, i, h => by rw [List.drop_of_length_le (by omega)]; rfl
  | n + 1, i, h => by
    rw [List.drop_eq_getElem_cons (by omega), F19_l2, rdI_at (by omega), F19_l2_t a n (i + 1) (by omega)]
    simp
theorem F19_t (a : List Label) (h : a.length ≤ 4294967290) : F19 a a = some true := by
  unfold F19
  rw [if_neg (fun h => h rfl), ck_t (by omega), Option.bind_some]
  have := F19_l2_t a a.length 0 (by omega)
  rw [List.drop_zero] at this
  rw [this]; rfl
theorem insK_len (y : Label) : ∀ r : List Label, (insK y r).length = r.length + 1
  | [] => rfl
  | x :: r => by rw [insK]; split <;> simp [insK_len y r]
theorem withL_len (l : List Label) (k v : ByteArray) : (withL l k v).length ≤ l.length + 1 := by
  have hfl : (l.filter (ne k)).length ≤ l.length := List.length_filter_le ..
  rw [withL, insK_len]; omega
theorem LabelLookup_pure : LabelLookup.Pure := by
  intro l k v _ _ _ _
  unfold F4
  simp only [F11_t, F12_t, Option.bind_some]
  cases h : small l []
  · rfl
  have h1 := small_l h
  simp only [nb_not, Bool.not_true, Bool.false_eq_true, if_false]
  have hw := withL_len l k v
  rw [F18_e, F17_t l k (by omega), F20_t l k v (by omega), F21_t l k v (by omega)]
  simp only [Option.bind_some, F19_t _ (show (withL l k v).length ≤ 4294967290 by omega)]
  by_cases hk : 200 < (k.size : Int)
  · simp [hk]
  · by_cases hv : 200 < (v.size : Int) <;> simp [hk, hv]

open Go Go.Fw
set_option maxRecDepth 100000

open Go Go.Fw
set_option maxRecDepth 100000

open Go Go.Fw
set_option maxRecDepth 100000

open Go Go.Fw
set_option maxRecDepth 100000

end Go.Proofs.Ytadhmlfnfgpjjaa
