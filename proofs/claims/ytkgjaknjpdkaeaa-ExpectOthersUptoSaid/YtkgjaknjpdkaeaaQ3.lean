/- The plain laws, part 3. -/
import Derived.Test.YtkgjaknjpdkaeaaQ2
set_option linter.unusedVariables false
set_option linter.unusedSimpArgs false
namespace Go.Proofs.Ytkgjaknjpdkaeaa
open Go Go.Fw
set_option maxRecDepth 100000

abbrev E := Expectation

/-! Comparisons. -/
theorem scmp_neg (a b : ByteArray) : scmp a b < 0 ↔ lt a b := by
  unfold scmp
  by_cases h : lt a b
  · simp [h]
  · rw [if_neg h]
    by_cases h2 : a = b
    · rw [if_pos h2]; simp [h]
    · rw [if_neg h2]; simp [h]
theorem scmp_zero (a b : ByteArray) : scmp a b = 0 ↔ a = b := by
  unfold scmp
  by_cases h : lt a b
  · simp [h, lt_ne h]
  · rw [if_neg h]
    by_cases h2 : a = b <;> simp [h2]
theorem scmp_np (a b : ByteArray) : scmp a b ≤ 0 ↔ lt a b ∨ a = b := by
  rw [← scmp_neg, ← scmp_zero]; omega
def cS (x y : ByteArray) : Int := scmp y x
def cK (k : ByteArray) (y : E) : Int := scmp y.Key k
def ltK (a b : E) : Prop := lt a.Key b.Key
theorem S_key {l : List E} (h : l.Pairwise ltK) (k : ByteArray) : S (cK k) l :=
  h.imp fun {a b} hab hc => by
    rcases (scmp_np b.Key k).1 hc with h1 | rfl
    · exact (scmp_neg a.Key k).2 (lt_trans hab h1)
    · exact (scmp_neg a.Key b.Key).2 hab
theorem bs_top {α : Type} {c : α → Int} {l : List α} (hs : S c l) (hl : l.length ≤ 1000000) : bsL c l 1099511627776 0 (l.length : Int) = some (plc c l : Int) :=
  bsL_spec hs hl 1099511627776 0 l.length (by omega) (Nat.zero_le _) (plc_le c l) (Nat.le_refl _)
theorem insI_C {α : Type} {c : α → Int} {l : List α} (x : α) (hl : l.length ≤ 1000000) : insI l (plc c l : Int) x = some (insC c x l) := by
  have := plc_le c l
  unfold insI
  rw [if_pos (by omega), Int.toNat_natCast, insC_plc]
theorem F37_eq (y : E) (x : ByteArray) : F37 y x = some (scmp y.Key x) := rfl
theorem F36_bs (l : List E) (x : ByteArray) : ∀ k a b, F36_l1 l x k a b = bsL (cK x) l k a b
  | 0, _, _ => rfl
  | k + 1, a, b => by
    rw [F36_l1, bsL]
    show (if a < b then (rdI l (mid a b)).bind (fun y3 => if scmp y3.Key x < 0 then F36_l1 l x k (IntKind.i64.wrap (mid a b + 1)) b else F36_l1 l x k a (mid a b)) else some a) = _
    rw [F36_bs l x k, F36_bs l x k]; rfl
theorem F36_spec {l : List E} (hs : l.Pairwise ltK) (hl : l.length ≤ 1000000) (x : ByteArray) : ∃ b, F36 l x = some ((plc (cK x) l : Int), b) := by
  unfold F36
  rw [F36_bs, bs_top (S_key hs x) hl]
  simp only [Option.bind_some]
  have := find_t (S_key hs x)
  refine ⟨hasC (cK x) l, ?_⟩
  show (((if (plc (cK x) l : Int) < (l.length : Int) then (rdI l (plc (cK x) l : Int)).bind fun y => some (decide (cK x y = 0)) else some false)).bind fun o6 => some ((plc (cK x) l : Int), o6)) = _
  rw [this]; rfl
theorem lt_code (a b : ByteArray) : Op.bytesLess a.toList b.toList = decide (lt a b) := by
  rw [toList_bl, toList_bl, bless_lt]; exact decide_eq_decide.2 (lt_bl a b).symm

/-! One expectation put in its place. -/
def nth (x : E) : Bool := decide (x.Creates = 0) && x.Deletes.isEmpty
def one (x : E) : List E := if nth x = true then [] else [x]
def putE (x : E) : List E → List E
  | [] => one x
  | y :: l => if lt y.Key x.Key then y :: putE x l else if y.Key = x.Key then one x ++ l else one x ++ y :: l
def ne (k : ByteArray) (e : E) : Bool := decide (e.Key ≠ k)
theorem nth_code (x : E) : ((if x.Creates = 0 then some (decide ((x.Deletes.length : Int) = 0)) else some false) : Option Bool) = some (nth x) := by
  unfold nth
  by_cases h : x.Creates = 0
  · rw [if_pos h]
    cases hd : x.Deletes with
    | nil => simp [h]
    | cons y l => simp [h]; omega
  · rw [if_neg h]; simp [h]
theorem ne_all {k : ByteArray} {l : List E} (h : ∀ z ∈ l, lt k z.Key) : l.filter (ne k) = l :=
  List.filter_eq_self.2 fun z hz => by unfold ne; simpa using (fun e : z.Key = k => lt_irrefl k (by have := h z hz; rwa [e] at this))
theorem putE_gt {x : E} : ∀ {l : List E}, (∀ z ∈ l, lt x.Key z.Key) → putE x l = one x ++ l
  | [], _ => by simp [putE]
  | y :: l, h => by
    have hy := h y (List.mem_cons_self ..)
    unfold putE
    rw [if_neg (fun c => lt_asymm c hy), if_neg (fun c : y.Key = x.Key => lt_irrefl x.Key (by rwa [c] at hy))]
theorem one_filter (x : E) : (one x).filter (ne x.Key) = [] := by unfold one; split <;> simp [ne]
theorem putE_ne (x : E) : ∀ l : List E, (putE x l).filter (ne x.Key) = l.filter (ne x.Key)
  | [] => one_filter x
  | y :: l => by
    unfold putE
    split
    · rw [List.filter_cons, List.filter_cons, putE_ne x l]
    · split
      · rename_i h2
        rw [List.filter_append, one_filter, List.filter_cons_of_neg (by simp [ne, h2])]; rfl
      · rw [List.filter_append, one_filter]; rfl
theorem putE_mem {x z : E} : ∀ {l : List E}, z ∈ putE x l → z = x ∨ z ∈ l
  | [], h => by unfold putE one at h; split at h <;> simp at h; exact .inl h
  | y :: l, h => by
    have ho : z ∈ one x → z = x := fun h => by unfold one at h; split at h <;> simp at h; exact h
    unfold putE at h
    split at h
    · rcases List.mem_cons.1 h with e | h
      · exact .inr (by simp [e])
      · rcases putE_mem h with e | h
        · exact .inl e
        · exact .inr (by simp [h])
    · split at h
      · rcases List.mem_append.1 h with h | h
        · exact .inl (ho h)
        · exact .inr (by simp [h])
      · rcases List.mem_append.1 h with h | h
        · exact .inl (ho h)
        · exact .inr h
theorem putE_len (x : E) : ∀ l : List E, (putE x l).length ≤ l.length + 1
  | [] => by unfold putE one; split <;> simp
  | y :: l => by
    have := putE_len x l
    have ho : (one x).length ≤ 1 := by unfold one; split <;> simp
    unfold putE
    split
    · simp; omega
    · split <;> simp <;> omega
theorem putE_pw {x : E} : ∀ {l : List E}, l.Pairwise ltK → (putE x l).Pairwise ltK
  | [], _ => by unfold putE one; split <;> simp
  | y :: l, h => by
    have h2 := List.pairwise_cons.1 h
    have ho : ∀ {m : List E}, (∀ z ∈ m, ltK x z) → m.Pairwise ltK → (one x ++ m).Pairwise ltK := fun hm hp => by
      unfold one; split
      · simpa using hp
      · exact List.pairwise_cons.2 ⟨hm, hp⟩
    unfold putE
    by_cases hy : lt y.Key x.Key
    · rw [if_pos hy]
      refine List.pairwise_cons.2 ⟨fun z hz => ?_, putE_pw h2.2⟩
      rcases putE_mem hz with e | hz
      · rw [e]; exact hy
      · exact h2.1 z hz
    · rw [if_neg hy]
      by_cases e : y.Key = x.Key
      · rw [if_pos e]
        exact ho (fun z hz => by have := h2.1 z hz; unfold ltK at *; rw [← e]; exact this) h2.2
      · rw [if_neg e]
        have hxy : lt x.Key y.Key := lt_of_not hy e
        refine ho (fun z hz => ?_) h
        rcases List.mem_cons.1 hz with e2 | hz
        · rw [e2]; exact hxy
        · exact lt_trans hxy (h2.1 z hz)
def isK (k : ByteArray) (e : E) : Bool := decide (e.Key = k)
theorem find_none {k : ByteArray} {l : List E} (h : ∀ z ∈ l, lt k z.Key) : l.find? (isK k) = none :=
  List.find?_eq_none.2 fun z hz => by unfold isK; simpa using (fun e : z.Key = k => lt_irrefl k (by have := h z hz; rwa [e] at this))
theorem putE_find (x : E) : ∀ {l : List E}, l.Pairwise ltK → (putE x l).find? (isK x.Key) = if nth x = true then none else some x
  | [], _ => by unfold putE one; split <;> simp [isK]
  | y :: l, h => by
    have h2 := List.pairwise_cons.1 h
    have ho : ∀ {m : List E}, (∀ z ∈ m, lt x.Key z.Key) → (one x ++ m).find? (isK x.Key) = if nth x = true then none else some x := fun hm => by
      unfold one; split
      · exact find_none hm
      · simp [isK]
    unfold putE
    by_cases hy : lt y.Key x.Key
    · rw [if_pos hy, List.find?_cons_of_neg (by simp [isK]; exact fun e => lt_ne hy e), putE_find x h2.2]
    · rw [if_neg hy]
      by_cases e : y.Key = x.Key
      · rw [if_pos e]; exact ho fun z hz => by have := h2.1 z hz; unfold ltK at this; rw [← e]; exact this
      · rw [if_neg e]
        have hxy : lt x.Key y.Key := lt_of_not hy e
        refine ho fun z hz => ?_
        rcases List.mem_cons.1 hz with e2 | hz
        · rw [e2]; exact hxy
        · exact lt_trans hxy (h2.1 z hz)
theorem putE_cons (x y : E) (l : List E) : putE x (y :: l) = if lt y.Key x.Key then y :: putE x l else if y.Key = x.Key then one x ++ l else one x ++ y :: l := rfl
theorem putE_putE {x x' : E} (hk : x'.Key = x.Key) : ∀ {l : List E}, l.Pairwise ltK → putE x' (putE x l) = putE x' l
  | [], _ => by
    show putE x' (one x) = one x'
    unfold one
    by_cases h : nth x = true
    · rw [if_pos h]; rfl
    · rw [if_neg h, putE_cons, if_neg (by rw [hk]; exact lt_irrefl _), if_pos hk.symm]; simp [one]
  | y :: l, h => by
    have h2 := List.pairwise_cons.1 h
    have ho : ∀ {m : List E}, (∀ z ∈ m, lt x.Key z.Key) → putE x' (one x ++ m) = one x' ++ m := fun {m} hm => by
      unfold one
      by_cases h : nth x = true
      · rw [if_pos h]; exact putE_gt fun z hz => by rw [hk]; exact hm z hz
      · rw [if_neg h]
        show putE x' (x :: m) = _
        rw [putE_cons, if_neg (by rw [hk]; exact lt_irrefl _), if_pos hk.symm]; rfl
    rw [putE_cons x y l, putE_cons x' y l, hk]
    by_cases hy : lt y.Key x.Key
    · rw [if_pos hy, if_pos hy, putE_cons, if_pos (by rw [hk]; exact hy), putE_putE hk h2.2]
    · rw [if_neg hy, if_neg hy]
      by_cases e : y.Key = x.Key
      · rw [if_pos e, if_pos e]
        exact ho fun z hz => by have := h2.1 z hz; unfold ltK at this; rw [← e]; exact this
      · rw [if_neg e, if_neg e]
        have hxy : lt x.Key y.Key := lt_of_not hy e
        refine ho fun z hz => ?_
        rcases List.mem_cons.1 hz with e2 | hz
        · rw [e2]; exact hxy
        · exact lt_trans hxy (h2.1 z hz)
theorem putE_filter (x : E) : ∀ {l : List E}, l.Pairwise ltK → putE x (l.filter (ne x.Key)) = putE x l
  | [], _ => rfl
  | y :: l, h => by
    have h2 := List.pairwise_cons.1 h
    by_cases hy : lt y.Key x.Key
    · rw [List.filter_cons_of_pos (by simp [ne]; exact fun e => lt_ne hy e), putE, putE, if_pos hy, if_pos hy, putE_filter x h2.2]
    · by_cases e : y.Key = x.Key
      · have hl : ∀ z ∈ l, lt x.Key z.Key := fun z hz => by have := h2.1 z hz; unfold ltK at this; rw [← e]; exact this
        rw [List.filter_cons_of_neg (by simp [ne, e]), ne_all hl, putE_gt hl, putE, if_neg hy, if_pos e]
      · have hxy : lt x.Key y.Key := lt_of_not hy e
        have hl : ∀ z ∈ y :: l, lt x.Key z.Key := fun z hz => by
          rcases List.mem_cons.1 hz with e2 | hz
          · rw [e2]; exact hxy
          · exact lt_trans hxy (h2.1 z hz)
        rw [ne_all hl]
theorem putE_ins {x : E} (hn : nth x = false) : ∀ {l : List E}, l.Pairwise ltK → (∀ z ∈ l, z.Key ≠ x.Key) → insC (cK x.Key) x l = putE x l
  | [], _, _ => by simp [insC, putE, one, hn]
  | y :: l, h, hk => by
    have h2 := List.pairwise_cons.1 h
    unfold insC putE
    by_cases hy : lt y.Key x.Key
    · rw [if_pos (show cK x.Key y < 0 from (scmp_neg _ _).2 hy), if_pos hy, putE_ins hn h2.2 fun z hz => hk z (List.mem_cons_of_mem _ hz)]
    · rw [if_neg (show ¬ cK x.Key y < 0 from mt (scmp_neg _ _).1 hy), if_neg hy, if_neg (hk y (List.mem_cons_self ..))]; simp [one, hn]
theorem putE_nil {x : E} (hn : nth x = true) : ∀ {l : List E}, (∀ z ∈ l, z.Key ≠ x.Key) → putE x l = l
  | [], _ => by simp [putE, one, hn]
  | y :: l, hk => by
    unfold putE
    by_cases hy : lt y.Key x.Key
    · rw [if_pos hy, putE_nil hn fun z hz => hk z (List.mem_cons_of_mem _ hz)]
    · rw [if_neg hy, if_neg (hk y (List.mem_cons_self ..))]; simp [one, hn]
theorem F26_spec {l : List E} (hs : l.Pairwise ltK) (hl : l.length ≤ 1000000) (x : E) : F26 (l.filter (ne x.Key)) x = some (putE x l) := by
  have hf : (l.filter (ne x.Key)).length ≤ l.length := List.length_filter_le ..
  have hs2 := hs.filter (ne x.Key)
  have hk : ∀ z ∈ l.filter (ne x.Key), z.Key ≠ x.Key := fun z hz => by have := (List.mem_filter.1 hz).2; simpa [ne] using this
  unfold F26
  rw [nth_code]
  simp only [Option.bind_some]
  rw [← putE_filter x hs]
  cases hn : nth x with
  | true => rw [if_pos rfl, putE_nil hn hk]
  | false =>
    rw [if_neg (by simp)]
    obtain ⟨b, hb⟩ := F36_spec hs2 (by omega) x.Key
    rw [hb, Option.bind_some, insI_C x (by omega), putE_ins hn hs2 hk]; rfl

/-! The reference's put. -/
theorem F27_l3_true (x : E) : ∀ (l : List E) (i : Nat) (o : List E), o.length + l.length ≤ 1999990 → F27_l3 x l i o true = some (o ++ l.filter (ne x.Key), true)
  | [], i, o, _ => by simp [F27_l3]
  | y :: l, i, o, h => by
    simp only [List.length_cons] at h
    rw [F27_l3]
    simp only [nb_not, Bool.not_true, Bool.false_eq_true, if_false, Option.bind_some]
    by_cases hy : y.Key = x.Key
    · rw [if_neg (by simpa using hy)]
      simp only [Option.bind_some]
      rw [F27_l3_true x l (i + 1) o (by omega), List.filter_cons_of_neg (by simp [ne, hy])]
    · rw [if_pos hy, apI_t (by simp; omega)]
      simp only [Option.bind_some]
      rw [F27_l3_true x l (i + 1) _ (by simp; omega), List.filter_cons_of_pos (by simp [ne, hy])]
      simp
theorem F27_l3_false {x : E} (hn : nth x = false) : ∀ (l : List E), l.Pairwise ltK → ∀ (i : Nat) (o : List E), o.length + l.length ≤ 1999980 →
    (F27_l3 x l i o false).bind (fun o3 => if (nb o3.2) = true then (apI o3.1 ([x])).bind fun a15 => some a15 else some o3.1) = some (o ++ putE x l)
  | [], _, i, o, h => by
    simp only [List.length_nil] at h
    simp only [F27_l3, Option.bind_some, nb_not, Bool.not_false, if_true]
    rw [apI_t (by simp; omega)]; simp [putE, one, hn]
  | y :: l, hs, i, o, h => by
    have h2 := List.pairwise_cons.1 hs
    simp only [List.length_cons] at h
    rw [F27_l3]
    simp only [nb_not, Bool.not_false, if_true, Option.bind_some, lt_code]
    by_cases hy : lt y.Key x.Key
    · simp only [hy, decide_true, Bool.true_or, Bool.not_true, Bool.false_eq_true, if_false, Option.bind_some]
      rw [if_pos (lt_ne hy), apI_t (by simp; omega)]
      simp only [Option.bind_some]
      have := F27_l3_false hn l h2.2 (i + 1) (o ++ [y]) (by simp; omega)
      simp only [nb_not] at this
      rw [this, putE, if_pos hy]; simp
    · by_cases e : y.Key = x.Key
      · have hl : ∀ z ∈ l, lt x.Key z.Key := fun z hz => by have := h2.1 z hz; unfold ltK at this; rw [← e]; exact this
        simp only [hy, e, decide_false, decide_true, Bool.or_true, Bool.not_true, Bool.false_eq_true, if_false, Option.bind_some, not_true_eq_false]
        have := F27_l3_false hn l h2.2 (i + 1) o (by omega)
        simp only [nb_not] at this
        rw [this, putE, if_neg hy, if_pos e, putE_gt hl]
      · have hxy : lt x.Key y.Key := lt_of_not hy e
        have hl : ∀ z ∈ l, lt x.Key z.Key := fun z hz => lt_trans hxy (h2.1 z hz)
        simp only [hy, e, decide_false, Bool.or_false, Bool.not_false, if_true, Option.bind_some]
        rw [apI_t (by simp; omega)]
        simp only [Option.bind_some, not_false_eq_true, if_true]
        rw [apI_t (by simp; omega)]
        simp only [Option.bind_some]
        rw [F27_l3_true x l (i + 1) _ (by simp; omega), ne_all hl]
        simp only [Option.bind_some, Bool.not_true, Bool.false_eq_true, if_false]
        rw [putE, if_neg hy, if_neg e]; simp [one, hn]
theorem F27_spec {l : List E} (hs : l.Pairwise ltK) (hl : l.length ≤ 1000000) (x : E) : F27 l x = some (putE x l) := by
  unfold F27
  rw [nth_code]
  simp only [Option.bind_some]
  rw [ck_t ⟨Nat.zero_le _, by omega⟩]
  simp only [Option.bind_some]
  cases hn : nth x with
  | true =>
    rw [F27_l3_true x l 0 [] (by simp; omega)]
    simp only [Option.bind_some, nb_not, Bool.not_true, Bool.false_eq_true, if_false, List.nil_append]
    rw [← putE_filter x hs, putE_nil hn fun z hz => by have := (List.mem_filter.1 hz).2; simpa [ne] using this]
  | false =>
    have := F27_l3_false hn l hs 0 [] (by simp; omega)
    exact this
end Go.Proofs.Ytkgjaknjpdkaeaa
