/- The plain laws, part 2. -/
import Derived.Test.YtpgonamdmlgifaaQ
set_option linter.unusedVariables false
set_option linter.unusedSimpArgs false
namespace Go.Proofs.Ytpgonamdmlgifaa
open Go Go.Fw
set_option maxRecDepth 100000

abbrev W := WorkItem
abbrev Q := WorkQueue
instance (x : ByteArray) (l : List ByteArray) : Decidable (x ∈ l) := decidable_of_iff (l.any (fun y => decide (y = x)) = true) (by simp)

/-! Comparisons. -/
theorem scmp_neg (a b : ByteArray) : scmp a b < 0 ↔ lt a b := by
  unfold scmp
  by_cases h : lt a b
  · simp [h]
  · rw [if_neg h]
    by_cases h2 : a = b
    · rw [if_pos h2]; simp [h]
    · rw [if_neg h2]; simp [h]
theorem scmp_zero (a b : ByteArray) : scmp a b = 0 ↔ a = b := by
  unfold scmp
  by_cases h : lt a b
  · simp [h, lt_ne h]
  · rw [if_neg h]
    by_cases h2 : a = b <;> simp [h2]
theorem scmp_np (a b : ByteArray) : scmp a b ≤ 0 ↔ lt a b ∨ a = b := by
  rw [← scmp_neg, ← scmp_zero]; omega
theorem lt_dec (a b : ByteArray) : lt a b ∨ a = b ∨ lt b a := by
  by_cases h : a = b
  · exact .inr (.inl h)
  · rcases lt_total h with h | h
    · exact .inl h
    · exact .inr (.inr h)
def cS (x y : ByteArray) : Int := scmp y x
def cK (k : ByteArray) (y : W) : Int := scmp y.Key k
def cT (x y : W) : Int := if y.At < x.At then -1 else if x.At < y.At then 1 else scmp y.Key x.Key
def ltW (a b : W) : Prop := a.At < b.At ∨ a.At = b.At ∧ lt a.Key b.Key
theorem cT_neg (x y : W) : cT x y < 0 ↔ ltW y x := by
  unfold cT ltW
  by_cases h : y.At < x.At
  · simp [h]
  · rw [if_neg h]
    by_cases h2 : x.At < y.At
    · simp [h2, h]; omega
    · rw [if_neg h2, scmp_neg]
      have : y.At = x.At := by omega
      simp [this]
theorem cT_zero (x y : W) : cT x y = 0 ↔ y.At = x.At ∧ y.Key = x.Key := by
  unfold cT
  by_cases h : y.At < x.At
  · rw [if_pos h]; simp; omega
  · rw [if_neg h]
    by_cases h2 : x.At < y.At
    · rw [if_pos h2]; simp; omega
    · rw [if_neg h2, scmp_zero]
      have : y.At = x.At := by omega
      simp [this]
theorem ltW_trans {a b c : W} (h : ltW a b) (h' : ltW b c) : ltW a c := by
  unfold ltW at *
  rcases h with h | ⟨h, h1⟩ <;> rcases h' with h' | ⟨h', h1'⟩
  · left; omega
  · left; omega
  · left; omega
  · right; exact ⟨by omega, lt_trans h1 h1'⟩
theorem S_str {l : List ByteArray} (h : l.Pairwise lt) (x : ByteArray) : S (cS x) l :=
  h.imp fun {a b} hab hc => by
    rcases (scmp_np b x).1 hc with h1 | rfl
    · exact (scmp_neg a x).2 (lt_trans hab h1)
    · exact (scmp_neg a b).2 hab
theorem S_key {l : List W} (h : l.Pairwise fun a b => lt a.Key b.Key) (k : ByteArray) : S (cK k) l :=
  h.imp fun {a b} hab hc => by
    rcases (scmp_np b.Key k).1 hc with h1 | rfl
    · exact (scmp_neg a.Key k).2 (lt_trans hab h1)
    · exact (scmp_neg a.Key b.Key).2 hab
theorem S_tim {l : List W} (h : l.Pairwise ltW) (x : W) : S (cT x) l :=
  h.imp fun {a b} hab hc => by
    rw [cT_neg]
    by_cases h0 : cT x b = 0
    · obtain ⟨h1, h2⟩ := (cT_zero x b).1 h0
      unfold ltW at hab ⊢; rw [← h1, ← h2]; exact hab
    · exact ltW_trans hab ((cT_neg x b).1 (by omega))

/-! The searches. -/
theorem F61_eq (a b : ByteArray) : F61 a b = some (scmp a b) := rfl
theorem F40_eq (a b : W) : F40 a b = some (scmp a.Key b.Key) := rfl
theorem F49_eq (y x : W) : F49 y x = some (cT x y) := by
  unfold F49 F70 F77 F69
  simp only [Option.bind_some, F40_eq, not_true_eq_false, if_false]
  unfold cT
  by_cases h : y.At < x.At
  · rw [if_pos h, if_pos h]; rfl
  · rw [if_neg h, if_neg h]
    by_cases h2 : x.At < y.At
    · rw [if_pos h2, if_pos h2]; rfl
    · rw [if_neg h2, if_neg h2]
      simp only [Option.bind_some]
      rw [ck_t ⟨Nat.zero_le _, by simp⟩, Option.bind_some]
      simp only [F69_l1, not_true_eq_false, if_false]
      by_cases h3 : scmp y.Key x.Key = 0
      · rw [if_neg (by simpa using h3), h3]; rfl
      · rw [if_pos h3]; rfl
theorem F62_bs (l : List ByteArray) (x : ByteArray) : ∀ k a b, F62_l1 l x k a b = bsL (cS x) l k a b
  | 0, _, _ => rfl
  | k + 1, a, b => by
    rw [F62_l1, bsL]
    show (if a < b then (rdI l (mid a b)).bind (fun y3 => if scmp y3 x < 0 then F62_l1 l x k (IntKind.i64.wrap (mid a b + 1)) b else F62_l1 l x k a (mid a b)) else some a) = _
    rw [F62_bs l x k, F62_bs l x k]; rfl
theorem F66_bs (l : List W) (x : W) : ∀ k a b, F66_l1 l x k a b = bsL (cT x) l k a b
  | 0, _, _ => rfl
  | k + 1, a, b => by
    rw [F66_l1, bsL]
    simp only [F49_eq, Option.bind_some]
    show (if a < b then (rdI l (mid a b)).bind (fun y3 => if cT x y3 < 0 then F66_l1 l x k (IntKind.i64.wrap (mid a b + 1)) b else F66_l1 l x k a (mid a b)) else some a) = _
    rw [F66_bs l x k, F66_bs l x k]
theorem F66v1_bs (l : List W) (x : W) : ∀ k a b, F66v1_l1 l x k a b = bsL (cK x.Key) l k a b
  | 0, _, _ => rfl
  | k + 1, a, b => by
    rw [F66v1_l1, bsL]
    show (if a < b then (rdI l (mid a b)).bind (fun y3 => if scmp y3.Key x.Key < 0 then F66v1_l1 l x k (IntKind.i64.wrap (mid a b + 1)) b else F66v1_l1 l x k a (mid a b)) else some a) = _
    rw [F66v1_bs l x k, F66v1_bs l x k]; rfl
theorem bs_top {α : Type} {c : α → Int} {l : List α} (hs : S c l) (hl : l.length ≤ 1000000) : bsL c l 1099511627776 0 (l.length : Int) = some (plc c l : Int) :=
  bsL_spec hs hl 1099511627776 0 l.length (by omega) (Nat.zero_le _) (plc_le c l) (Nat.le_refl _)
theorem F34_spec {l : List ByteArray} (hs : l.Pairwise lt) (hl : l.length ≤ 1000000) (x : ByteArray) : F34 x l = some ((plc (cS x) l : Int), hasC (cS x) l) := by
  unfold F34 F62
  rw [F62_bs, bs_top (S_str hs x) hl]
  simp only [Option.bind_some]
  have := find_t (S_str hs x)
  show (((if (plc (cS x) l : Int) < (l.length : Int) then (rdI l (plc (cS x) l : Int)).bind fun y => some (decide (cS x y = 0)) else some false)).bind fun o6 => some ((plc (cS x) l : Int), o6)).bind _ = _
  rw [this]; rfl
theorem F41_spec {l : List W} (hs : l.Pairwise ltW) (hl : l.length ≤ 1000000) (x : W) : F41 x l = some ((plc (cT x) l : Int), hasC (cT x) l) := by
  unfold F41 F66
  rw [F66_bs, bs_top (S_tim hs x) hl]
  simp only [Option.bind_some, F49_eq]
  rw [find_t (S_tim hs x)]; rfl
theorem F41v1_spec {l : List W} (hs : l.Pairwise fun a b => lt a.Key b.Key) (hl : l.length ≤ 1000000) (x : W) : F41v1 x l = some ((plc (cK x.Key) l : Int), hasC (cK x.Key) l) := by
  unfold F41v1 F66v1
  rw [F66v1_bs, bs_top (S_key hs x.Key) hl]
  simp only [Option.bind_some]
  have := find_t (S_key hs x.Key)
  show (((if (plc (cK x.Key) l : Int) < (l.length : Int) then (rdI l (plc (cK x.Key) l : Int)).bind fun y => some (decide (cK x.Key y = 0)) else some false)).bind fun o6 => some ((plc (cK x.Key) l : Int), o6)).bind _ = _
  rw [this]; rfl

theorem insI_C {α : Type} {c : α → Int} {l : List α} (x : α) (hl : l.length ≤ 1000000) : insI l (plc c l : Int) x = some (insC c x l) := by
  have := plc_le c l
  unfold insI
  rw [if_pos (by omega), Int.toNat_natCast, insC_plc]
theorem delI_C {α : Type} {c : α → Int} {l : List α} (hs : S c l) (hl : l.length ≤ 1000000) (h : hasC c l = true) : delI l (plc c l : Int) (IntKind.i64.wrap ((plc c l : Int) + 1)) = some (l.filter fun y => decide (c y ≠ 0)) := by
  have h1 := plc_le c l
  have h2 : plc c l < l.length := by
    have := find_at hs
    by_cases hp : plc c l < l.length
    · exact hp
    · rw [List.getElem?_eq_none (by omega), h] at this; simp at this
  unfold delI
  rw [wrapN (by omega), if_pos (by omega), Int.toNat_natCast, Int.toNat_natCast, rem_C hs h]
theorem plc_lt {α : Type} {c : α → Int} {l : List α} (hs : S c l) (h : hasC c l = true) : plc c l < l.length := by
  have := find_at hs
  by_cases hp : plc c l < l.length
  · exact hp
  · rw [List.getElem?_eq_none (by omega), h] at this; simp at this

/-! Sorted names. -/
def putS (x : ByteArray) (l : List ByteArray) : List ByteArray := if x ∈ l then l else insC (cS x) x l
def rmS (x : ByteArray) (l : List ByteArray) : List ByteArray := l.filter fun y => decide (y ≠ x)
theorem hasC_str (x : ByteArray) (l : List ByteArray) : hasC (cS x) l = decide (x ∈ l) := by
  rw [Bool.eq_iff_iff, hasC_iff, decide_eq_true_iff]
  exact ⟨fun ⟨y, h1, h2⟩ => by rw [← (scmp_zero y x).1 h2]; exact h1, fun h => ⟨x, h, (scmp_zero x x).2 rfl⟩⟩
theorem F35_spec {l : List ByteArray} (hs : l.Pairwise lt) (hl : l.length ≤ 1000000) (x : ByteArray) : F35 x l = some (putS x l) := by
  unfold F35 putS
  rw [F34_spec hs hl, Option.bind_some]
  simp only [hasC_str]
  by_cases h : x ∈ l
  · rw [if_pos h]; simp [h]
  · rw [if_neg h]; simp only [h, decide_false, Bool.false_eq_true, if_false]
    rw [insI_C x hl]; rfl
theorem rmS_eq (x : ByteArray) (l : List ByteArray) : l.filter (fun y => decide (cS x y ≠ 0)) = rmS x l := by
  unfold rmS
  refine List.filter_congr fun y _ => ?_
  exact decide_eq_decide.2 (not_congr (scmp_zero y x))
theorem F37_spec {l : List ByteArray} (hs : l.Pairwise lt) (hl : l.length ≤ 1000000) (x : ByteArray) : F37 x l = some (rmS x l) := by
  unfold F37
  rw [F34_spec hs hl, Option.bind_some]
  by_cases h : hasC (cS x) l = true
  · simp only [h, nb_not, Bool.not_true, Bool.false_eq_true, if_false]
    rw [delI_C (S_str hs x) hl h, rmS_eq]; rfl
  · have h : hasC (cS x) l = false := by simpa using h
    simp only [h, nb_not, Bool.not_false, if_true]
    rw [← rmS_eq, rem_N h]
theorem F64_l1_spec (x : ByteArray) : ∀ (l : List ByteArray) (i : Nat), F64_l1 x l i = some (.inr ()) ∧ x ∉ l ∨ (∃ k : Nat, F64_l1 x l i = some (.inl (k : Int))) ∧ x ∈ l
  | [], i => .inl ⟨rfl, by simp⟩
  | y :: l, i => by
    rw [F64_l1]
    by_cases h : x = y
    · rw [if_pos h]; exact .inr ⟨⟨i, rfl⟩, by simp [h]⟩
    · rw [if_neg h]
      rcases F64_l1_spec x l (i + 1) with ⟨h1, h2⟩ | ⟨h1, h2⟩
      · exact .inl ⟨h1, by simp [h, h2]⟩
      · exact .inr ⟨h1, by simp [h2]⟩
theorem F36_spec (l : List ByteArray) (x : ByteArray) (hb : l.length ≤ 1000000) : F36 l x = some (decide (x ∈ l)) := by
  unfold F36 F64
  rw [ck_t ⟨Nat.zero_le _, by omega⟩, Option.bind_some]
  rcases F64_l1_spec x l 0 with ⟨h1, h2⟩ | ⟨⟨k, h1⟩, h2⟩
  · rw [h1]; simp [h2]
  · rw [h1]; simp [h2]
theorem F14_l1_spec (x : ByteArray) : ∀ (l : List ByteArray) (i : Nat), F14_l1 x l i = some (if x ∈ l then .inl true else .inr ())
  | [], i => by simp [F14_l1]
  | y :: l, i => by
    rw [F14_l1]
    by_cases h : y = x
    · rw [if_pos h, if_pos (by simp [h])]; rfl
    · rw [if_neg h, F14_l1_spec x l (i + 1)]
      simp [Ne.symm h]
theorem F14_spec (l : List ByteArray) (x : ByteArray) (hb : l.length ≤ 1000000) : F14 l x = some (decide (x ∈ l)) := by
  unfold F14
  rw [ck_t ⟨Nat.zero_le _, by omega⟩, Option.bind_some, F14_l1_spec]
  by_cases h : x ∈ l <;> simp [h]

/-! The reference's sorted names. -/
theorem F38_done (x : ByteArray) : ∀ (l : List ByteArray) (i : Nat) (o : List ByteArray), o.length + l.length ≤ 3000000 → F38_l1 x l i o true = some (o ++ rmS x l, true)
  | [], i, o, _ => by simp [F38_l1, rmS]
  | y :: l, i, o, h => by
    rw [F38_l1]
    simp only [List.length_cons] at h
    simp only [nb_not, Bool.not_true, Bool.false_eq_true, if_false, Option.bind_some]
    by_cases hy : y = x
    · rw [if_neg (by simpa using hy)]
      simp only [Option.bind_some]
      rw [F38_done x l (i + 1) o (by omega)]
      simp [rmS, hy]
    · rw [if_pos hy, apI_t (by simp; omega)]
      simp only [Option.bind_some]
      rw [F38_done x l (i + 1) _ (by simp; omega)]
      simp [rmS, hy]
/-- Where it goes, and what else is dropped. -/
def putR (x : ByteArray) : List ByteArray → List ByteArray
  | [] => [x]
  | y :: l => if lt y x then y :: putR x l else x :: rmS x (y :: l)
theorem F38_spec1 (x : ByteArray) : ∀ (l : List ByteArray) (i : Nat) (o : List ByteArray), o.length + l.length ≤ 2000000 →
    (F38_l1 x l i o false).bind (fun o1 => if (nb o1.2) = true then (apI o1.1 ([x])).bind fun a13 => some a13 else some o1.1) = some (o ++ putR x l)
  | [], i, o, h => by
    simp only [F38_l1, Option.bind_some, nb_not, Bool.not_false, if_true]
    simp only [List.length_nil] at h
    rw [apI_t (by simp; omega)]; rfl
  | y :: l, i, o, h => by
    rw [F38_l1]
    simp only [List.length_cons] at h
    simp only [nb_not, Bool.not_false, if_true, Option.bind_some, bl_le]
    unfold putR
    by_cases hy : lt y x
    · rw [if_pos hy]
      have h1 : ¬ (decide (¬ lt y x) = true) := by simpa using hy
      rw [if_neg h1]
      simp only [Option.bind_some]
      rw [if_pos (lt_ne hy), apI_t (by simp; omega)]
      simp only [Option.bind_some]
      have := F38_spec1 x l (i + 1) (o ++ [y]) (by simp; omega)
      simp only [nb_not] at this
      rw [this]; simp
    · rw [if_neg hy]
      have h1 : (decide (¬ lt y x) = true) := by simpa using hy
      rw [if_pos h1, apI_t (by simp; omega)]
      simp only [Option.bind_some]
      by_cases hx : y = x
      · rw [if_neg (by simpa using hx)]
        simp only [Option.bind_some]
        rw [F38_done x l (i + 1) _ (by simp; omega)]
        simp [rmS, hx]
      · rw [if_pos hx, apI_t (by simp; omega)]
        simp only [Option.bind_some]
        rw [F38_done x l (i + 1) _ (by simp; omega)]
        simp [rmS, hx]
theorem F38_spec (x : ByteArray) (l : List ByteArray) (h : l.length ≤ 1000000) : F38 l x = some (putR x l) := by
  unfold F38
  rw [ck_t ⟨Nat.zero_le _, by omega⟩, Option.bind_some, F38_spec1 x l 0 [] (by simp; omega)]; rfl
theorem rmS_mem {x y : ByteArray} {l : List ByteArray} : y ∈ rmS x l ↔ y ∈ l ∧ y ≠ x := by simp [rmS]
theorem putR_mem (x z : ByteArray) : ∀ l, z ∈ putR x l ↔ z = x ∨ z ∈ l
  | [] => by simp [putR]
  | y :: l => by
    have := putR_mem x z l
    unfold putR
    split
    · simp only [List.mem_cons, this]
      exact ⟨fun h => h.elim (fun h => .inr (.inl h)) fun h => h.elim .inl fun h => .inr (.inr h), fun h => h.elim (fun h => .inr (.inl h)) fun h => h.elim .inl fun h => .inr (.inr h)⟩
    · rw [List.mem_cons, rmS_mem]
      by_cases hz : z = x <;> simp [hz]
theorem rmS_len (x : ByteArray) (l : List ByteArray) : (rmS x l).length ≤ l.length := List.length_filter_le ..
theorem putR_len (x : ByteArray) : ∀ l, (putR x l).length ≤ l.length + 1
  | [] => by simp [putR]
  | y :: l => by
    have := putR_len x l
    unfold putR
    split
    · simp; omega
    · have := rmS_len x (y :: l); simp at this ⊢; omega
theorem rmS_none {x : ByteArray} {l : List ByteArray} (h : x ∉ l) : rmS x l = l := List.filter_eq_self.2 fun y hy => by
  simp only [decide_eq_true_eq]; intro e; exact h (e ▸ hy)
theorem putR_eq (x : ByteArray) : ∀ {l : List ByteArray}, l.Pairwise lt → putR x l = putS x l
  | [], _ => by simp [putR, putS, insC]
  | y :: l, h => by
    have h2 := List.pairwise_cons.1 h
    have ih := putR_eq x h2.2
    unfold putR
    by_cases hy : lt y x
    · rw [if_pos hy, ih]
      unfold putS
      have hne : x ≠ y := fun e => lt_irrefl x (e ▸ hy)
      by_cases hx : x ∈ l
      · rw [if_pos hx, if_pos (by simp [hx])]
      · rw [if_neg hx, if_neg (by simp [hx, hne]), insC, if_pos (show cS x y < 0 from (scmp_neg y x).2 hy)]
    · rw [if_neg hy]
      unfold putS
      by_cases hx : x = y
      · subst hx
        have hn : x ∉ l := fun hm => lt_irrefl x (h2.1 x hm)
        rw [if_pos (by simp)]
        have : rmS x (x :: l) = l := by
          unfold rmS; rw [List.filter_cons_of_neg (by simp)]; exact rmS_none hn
        rw [this]
      · have hl : lt x y := lt_of_not hy (fun e => hx e.symm)
        have hn : x ∉ y :: l := by
          intro hm
          rcases List.mem_cons.1 hm with e | hm
          · exact hx e
          · exact lt_irrefl x (lt_trans hl (h2.1 x hm))
        rw [if_neg hn, rmS_none hn, insC, if_neg (show ¬ cS x y < 0 from mt (scmp_neg y x).1 hy)]
theorem putR_last {x : ByteArray} : ∀ {l : List ByteArray}, (∀ y ∈ l, lt y x) → putR x l = l ++ [x]
  | [], _ => rfl
  | y :: l, h => by
    unfold putR
    rw [if_pos (h y (List.mem_cons_self ..)), putR_last fun z hz => h z (List.mem_cons_of_mem _ hz)]; rfl
theorem F52_l1_spec : ∀ (l : List ByteArray) (i : Nat) (o : List ByteArray), o.length + l.length ≤ 1000000 → (o ++ l).Pairwise lt → F52_l1 l i o = some (o ++ l)
  | [], i, o, _, _ => by simp [F52_l1]
  | y :: l, i, o, h, hp => by
    simp only [List.length_cons] at h
    rw [F52_l1, F38_spec y o (by omega), Option.bind_some, putR_last, F52_l1_spec l (i + 1) _ (by simp; omega) (by simpa using hp)]
    · simp
    · intro z hz
      exact (List.pairwise_append.1 hp).2.2 z hz y (List.mem_cons_self ..)
theorem F52_spec {l : List ByteArray} (hs : l.Pairwise lt) (hl : l.length ≤ 1000000) (x : ByteArray) : F52 l [x] = some (putS x l) := by
  unfold F52
  rw [ck_t ⟨Nat.zero_le _, by omega⟩, Option.bind_some, F52_l1_spec l 0 [] (by simp; omega) (by simpa using hs), Option.bind_some, ck_t ⟨Nat.zero_le _, by simp⟩, Option.bind_some]
  simp only [F52_l5, List.nil_append]
  rw [F38_spec x l hl, putR_eq x hs]; rfl
/-- Minus over any list. -/
theorem F18_any (x : ByteArray) : ∀ (l : List ByteArray) (i : Nat) (o : List ByteArray), o.length + l.length ≤ 1000000 → ∃ r, F18_l1 [x] l i o = some r ∧ r.length ≤ o.length + l.length ∧ ∀ z, z ∈ r ↔ z ∈ o ∨ z ∈ l ∧ z ≠ x
  | [], i, o, _ => ⟨o, rfl, by simp, by simp⟩
  | y :: l, i, o, h => by
    simp only [List.length_cons] at h
    rw [F18_l1, F14_spec [x] y (by simp)]
    simp only [Option.bind_some, nb_not]
    by_cases hy : y = x
    · obtain ⟨r, h1, h2, h3⟩ := F18_any x l (i + 1) o (by omega)
      refine ⟨r, ?_, by simp; omega, fun z => ?_⟩
      · simp [hy, h1]
      · rw [h3]; simp only [List.mem_cons]
        exact ⟨fun g => g.elim .inl fun g => .inr ⟨.inr g.1, g.2⟩, fun g => g.elim .inl fun g => g.1.elim (fun e => absurd (e.trans hy) g.2) fun g1 => .inr ⟨g1, g.2⟩⟩
    · obtain ⟨r, h1, h2, h3⟩ := F18_any x l (i + 1) (putR y o) (by have := putR_len y o; omega)
      refine ⟨r, ?_, by have := putR_len y o; simp; omega, fun z => ?_⟩
      · simp [hy, F38_spec y o (by omega), h1]
      · rw [h3, putR_mem]; simp only [List.mem_cons]
        exact ⟨fun g => g.elim (fun g => g.elim (fun e => .inr ⟨.inl e, e ▸ hy⟩) .inl) fun g => .inr ⟨.inr g.1, g.2⟩, fun g => g.elim (fun g => .inl (.inr g)) fun g => g.1.elim (fun e => .inl (.inl e)) fun g1 => .inr ⟨g1, g.2⟩⟩
theorem F18_l1_spec (x : ByteArray) : ∀ (l : List ByteArray) (i : Nat) (o : List ByteArray), o.length + l.length ≤ 1000000 → (o ++ l).Pairwise lt → F18_l1 [x] l i o = some (o ++ rmS x l)
  | [], i, o, _, _ => by simp [F18_l1, rmS]
  | y :: l, i, o, h, hp => by
    simp only [List.length_cons] at h
    rw [F18_l1, F14_spec [x] y (by simp)]
    simp only [Option.bind_some, nb_not]
    by_cases hy : y = x
    · have hp2 : (o ++ l).Pairwise lt := hp.sublist (List.Sublist.append_left (List.sublist_cons_self ..) o)
      simp [hy, F18_l1_spec x l (i + 1) o (by omega) hp2, rmS]
    · have e : putR y o = o ++ [y] := putR_last fun z hz => (List.pairwise_append.1 hp).2.2 z hz y (List.mem_cons_self ..)
      simp [hy, F38_spec y o (by omega), e, F18_l1_spec x l (i + 1) (o ++ [y]) (by simp; omega) (by simpa using hp), rmS]
theorem F18_spec {l : List ByteArray} (hs : l.Pairwise lt) (hl : l.length ≤ 1000000) (x : ByteArray) : F18 l [x] = some (rmS x l) := by
  unfold F18
  rw [ck_t ⟨Nat.zero_le _, by omega⟩, Option.bind_some, F18_l1_spec x l 0 [] (by simp; omega) (by simpa using hs)]; rfl
end Go.Proofs.Ytpgonamdmlgifaa
