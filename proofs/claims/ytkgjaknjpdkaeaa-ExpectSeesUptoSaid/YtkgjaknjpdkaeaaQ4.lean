/- The plain laws, part 4. -/
import Derived.Test.YtkgjaknjpdkaeaaQ3
set_option linter.unusedVariables false
set_option linter.unusedSimpArgs false
namespace Go.Proofs.Ytkgjaknjpdkaeaa
open Go Go.Fw
set_option maxRecDepth 100000

/-- Lists in order, of a size. -/
structure G (l : List E) : Prop where
  s : l.Pairwise ltK
  n : l.length ≤ 1000
  d : ∀ e ∈ l, e.Deletes.length ≤ 1000

/-! The others, and mine. -/
theorem cl_t {α : Type} {l : List α} (h : l.length ≤ 1999000) : cloneI l = some l := if_pos (by omega)
theorem F22_l1_none (k : ByteArray) (a : ByteArray) (b : Int) (c : List ByteArray) (d : Int) (f : Bool) : ∀ (l : List E) (i : Nat) (o : List E), (∀ e ∈ l, e.Deletes.length ≤ 1000) → (∀ e ∈ l, e.Key ≠ k) → o.length + l.length ≤ 1999990 →
    F22_l1 k l i o a b c d f = some (o ++ l, a, b, c, d, f)
  | [], i, o, _, _, _ => by simp [F22_l1]
  | y :: l, i, o, hd, hk, h => by
    simp only [List.length_cons] at h
    have hy := hd y (List.mem_cons_self ..)
    rw [F22_l1, cl_t (by omega)]
    simp only [Option.bind_some]
    rw [if_neg (hk y (List.mem_cons_self ..)), apI_t (by simp; omega)]
    simp only [Option.bind_some]
    rw [F22_l1_none k a b c d f l (i + 1) _ (fun e he => hd e (List.mem_cons_of_mem _ he)) (fun e he => hk e (List.mem_cons_of_mem _ he)) (by simp; omega)]
    simp
theorem F22_l1_spec (k : ByteArray) : ∀ (l : List E) (i : Nat) (o : List E), l.Pairwise ltK → (∀ e ∈ l, e.Deletes.length ≤ 1000) → o.length + l.length ≤ 1999990 →
    F22_l1 k l i o ⟨#[]⟩ 0 [] 0 false = some (match l.find? (isK k) with
      | some m => (o ++ l.filter (ne k), m.Key, m.Creates, m.Deletes, m.Since, true)
      | none => (o ++ l, ⟨#[]⟩, 0, [], 0, false))
  | [], i, o, _, _, _ => by simp [F22_l1]
  | y :: l, i, o, hs, hd, h => by
    have h2 := List.pairwise_cons.1 hs
    simp only [List.length_cons] at h
    have hy := hd y (List.mem_cons_self ..)
    have hd2 : ∀ e ∈ l, e.Deletes.length ≤ 1000 := fun e he => hd e (List.mem_cons_of_mem _ he)
    rw [F22_l1, cl_t (by omega)]
    simp only [Option.bind_some]
    by_cases e : y.Key = k
    · have hl : ∀ z ∈ l, lt k z.Key := fun z hz => by have := h2.1 z hz; unfold ltK at this; rw [← e]; exact this
      rw [if_pos e]
      simp only [Option.bind_some]
      rw [F22_l1_none k _ _ _ _ _ l (i + 1) o hd2 (fun z hz c => lt_irrefl k (by have := hl z hz; rwa [c] at this)) (by omega)]
      rw [List.find?_cons_of_pos (by simp [isK, e]), List.filter_cons_of_neg (by simp [ne, e]), ne_all hl]
    · rw [if_neg e, apI_t (by simp; omega)]
      simp only [Option.bind_some]
      rw [F22_l1_spec k l (i + 1) _ h2.2 hd2 (by simp; omega), List.find?_cons_of_neg (by simp [isK, e]), List.filter_cons_of_pos (by simp [ne, e])]
      cases l.find? (isK k) <;> simp
theorem F22_spec {l : List E} (h : G l) (k : ByteArray) : F22 l k = some (match l.find? (isK k) with
      | some m => (l.filter (ne k), m.Key, m.Creates, m.Deletes, m.Since, true)
      | none => (l, ⟨#[]⟩, 0, [], 0, false)) := by
  have hn := h.n
  unfold F22
  rw [ck_t ⟨Nat.zero_le _, by omega⟩, Option.bind_some, F22_l1_spec k l 0 [] h.s h.d (by simp; omega)]
  cases l.find? (isK k) <;> rfl
theorem find_fil {k : ByteArray} {l : List E} (h : l.find? (isK k) = none) : l.filter (ne k) = l := by
  rw [List.find?_eq_none] at h
  exact List.filter_eq_self.2 fun z hz => by have := h z hz; simpa [isK, ne] using this
theorem find_key {k : ByteArray} {l : List E} {m : E} (h : l.find? (isK k) = some m) : m.Key = k := by
  have := List.find?_some h; simpa [isK] using this

/-- An expectation changed, or dropped. -/
def upd (f : E → E) (k : ByteArray) (l : List E) : List E := match l.find? (isK k) with | none => l | some m => putE (f m) l
def dn (c : Int) : Int := if IntKind.i64.wrap (c - 1) < 0 then 0 else IntKind.i64.wrap (c - 1)
def fC (e : E) : E := ⟨e.Key, dn e.Creates, e.Deletes, e.Since⟩
def fD (s : ByteArray) (e : E) : E := ⟨e.Key, e.Creates, e.Deletes.filter (fun y => !decide (y = s)), e.Since⟩
theorem F12_spec {l : List E} (h : G l) (k : ByteArray) : F12 l k = some (upd fC k l) := by
  have hn := h.n
  unfold F12 upd
  rw [F22_spec h]
  cases hf : l.find? (isK k) with
  | none => rfl
  | some m =>
    simp only [Option.bind_some, nb, Bool.not_true, Bool.false_eq_true, if_false]
    have hk := find_key hf
    have := F26_spec h.s (by omega) (fC m)
    have e : (fC m).Key = k := hk
    rw [e] at this
    show (F26 (l.filter (ne k)) (fC m)).bind _ = _
    rw [this]; rfl
theorem F40_l1_spec (s : ByteArray) (l : List ByteArray) : ∀ n i, l.length = i + n → F40_l1 s l (l.drop i) i = some (if fip (fun y => decide (y = s)) (l.drop i) < (l.drop i).length then .inl ((i + fip (fun y => decide (y = s)) (l.drop i) : Nat) : Int) else .inr ())
  | 0, i, h => by rw [List.drop_of_length_le (by omega)]; rfl
  | n + 1, i, h => by
    have hi : i < l.length := by omega
    have ih := F40_l1_spec s l n (i + 1) (by omega)
    rw [List.drop_eq_getElem_cons hi, F40_l1, rdI_at hi]
    simp only [Option.bind_some, F31]
    by_cases h1 : l[i] = s
    · have e : fip (fun y => decide (y = s)) (l[i] :: l.drop (i + 1)) = 0 := by rw [fip, if_pos (by simpa using h1)]
      rw [if_pos h1, e, if_pos (by simp only [List.length_cons]; omega)]; rfl
    · have e : fip (fun y => decide (y = s)) (l[i] :: l.drop (i + 1)) = fip (fun y => decide (y = s)) (l.drop (i + 1)) + 1 := by rw [fip, if_neg (by simpa using h1)]
      rw [if_neg h1, e, ih, List.length_cons]
      by_cases h2 : fip (fun y => decide (y = s)) (l.drop (i + 1)) < (l.drop (i + 1)).length
      · rw [if_pos h2, if_pos (by omega)]; congr 3; omega
      · rw [if_neg h2, if_neg (by omega)]
theorem F30_l3_dl (s : ByteArray) : ∀ k c a b, F30_l3 s k c a b = dlL (fun y => decide (y = s)) k c a b
  | 0, _, _, _ => rfl
  | k + 1, c, a, b => by
    rw [F30_l3, dlL]
    simp only [F31, Option.bind_some, F30_l3_dl s k, nb_not]
    congr 1
    funext
    congr 1
    congr 1
    funext y
    by_cases h : y = s <;> simp [h]
theorem F30_spec (s : ByteArray) (l : List ByteArray) (hl : l.length ≤ 2000000) : F30 l s = some (l.filter fun y => !decide (y = s)) := by
  have h0 := F40_l1_spec s l l.length 0 (by omega)
  rw [List.drop_zero] at h0
  unfold F30 F40
  rw [ck_t ⟨Nat.zero_le _, by omega⟩, Option.bind_some, h0, Option.bind_some]
  have := del_spec (fun y => decide (y = s)) (⟨#[]⟩ : ByteArray) l hl
  simp only [F30_l3_dl]
  by_cases h : fip (fun y => decide (y = s)) l < l.length
  · simp only [h, if_true, Nat.zero_add, Option.bind_some] at this ⊢; exact this
  · simp only [h, if_false, Option.bind_some] at this ⊢; exact this
theorem mem_of_find {k : ByteArray} {l : List E} {m : E} (h : l.find? (isK k) = some m) : m ∈ l := List.mem_of_find?_eq_some h
theorem F14_spec {l : List E} (h : G l) (k s : ByteArray) : F14 l k s = some (upd (fD s) k l) := by
  have hn := h.n
  unfold F14 upd
  rw [F22_spec h]
  cases hf : l.find? (isK k) with
  | none => rfl
  | some m =>
    have hd := h.d m (mem_of_find hf)
    simp only [Option.bind_some, nb, Bool.not_true, Bool.false_eq_true, if_false]
    rw [F30_spec _ _ (by omega)]
    simp only [Option.bind_some]
    have hk := find_key hf
    have := F26_spec h.s (by omega) (fD s m)
    have e : (fD s m).Key = k := hk
    rw [e] at this
    show (F26 (l.filter (ne k)) (fD s m)).bind _ = _
    rw [this]; rfl

/-! The names. -/
def names (l : List ByteArray) : List ByteArray := compL (sortL l)
theorem F24_spec {l : List ByteArray} (h : l.length ≤ 1999990) : (F24 l).bind (fun t => (compI t)) = some (names l) := by
  unfold F24 collI names
  rw [if_pos (by omega), Option.bind_some]
  unfold sortI
  rw [if_pos (by omega)]
  simp only [Option.bind_some]
  unfold compI
  rw [if_pos (by rw [sortL_len]; omega)]
theorem names_pw (l : List ByteArray) : (names l).Pairwise lt := compL_pw (sortL_pw l)
theorem names_mem {z : ByteArray} {l : List ByteArray} : z ∈ names l ↔ z ∈ l := by unfold names; rw [compL_mem, sortL_mem]
theorem names_len (l : List ByteArray) : (names l).length ≤ l.length := by
  have := compL_len (sortL l)
  rw [sortL_len] at this; exact this
def insS (x : ByteArray) : List ByteArray → List ByteArray
  | [] => [x]
  | y :: l => if lt y x then y :: insS x l else if y = x then y :: l else x :: y :: l
theorem insS_mem (x z : ByteArray) : ∀ l, z ∈ insS x l ↔ z = x ∨ z ∈ l
  | [] => by simp [insS]
  | y :: l => by
    have := insS_mem x z l
    unfold insS
    split
    · simp only [List.mem_cons, this]
      exact ⟨fun h => h.elim (fun h => .inr (.inl h)) fun h => h.elim .inl fun h => .inr (.inr h), fun h => h.elim (fun h => .inr (.inl h)) fun h => h.elim .inl fun h => .inr (.inr h)⟩
    · split
      · rename_i h2
        constructor
        · exact .inr
        · rintro (e | h)
          · rw [e, h2]; simp
          · exact h
      · simp
theorem insS_len (x : ByteArray) : ∀ l, (insS x l).length ≤ l.length + 1
  | [] => by simp [insS]
  | y :: l => by
    have := insS_len x l
    unfold insS
    split
    · simp; omega
    · split <;> simp
theorem insS_pw (x : ByteArray) : ∀ {l : List ByteArray}, l.Pairwise lt → (insS x l).Pairwise lt
  | [], _ => by simp [insS]
  | y :: l, h => by
    have h2 := List.pairwise_cons.1 h
    unfold insS
    by_cases hy : lt y x
    · rw [if_pos hy]
      refine List.pairwise_cons.2 ⟨fun z hz => ?_, insS_pw x h2.2⟩
      rcases (insS_mem x z l).1 hz with e | hz
      · rw [e]; exact hy
      · exact h2.1 z hz
    · rw [if_neg hy]
      by_cases e : y = x
      · rw [if_pos e]; exact h
      · rw [if_neg e]
        have hxy : lt x y := lt_of_not hy e
        refine List.pairwise_cons.2 ⟨fun z hz => ?_, h⟩
        rcases List.mem_cons.1 hz with e2 | hz
        · rw [e2]; exact hxy
        · exact lt_trans hxy (h2.1 z hz)
/-- Where a name goes. -/
def pl (x : ByteArray) : List ByteArray → Nat
  | [] => 0
  | y :: l => if lt y x then pl x l + 1 else 0
theorem pl_le (x : ByteArray) : ∀ l, pl x l ≤ l.length
  | [] => Nat.le_refl _
  | y :: l => by have := pl_le x l; unfold pl; split <;> simp <;> omega
theorem F18_l4_spec (o : List ByteArray) (x : ByteArray) (hl : o.length ≤ 2000000) : ∀ (n k i : Nat), o.length = i + n → n < k → F18_l4 o x k (i : Int) = some ((i + pl x (o.drop i) : Nat) : Int)
  | _, 0, i, _, hk => by omega
  | 0, k + 1, i, h, _ => by
    rw [F18_l4, if_neg (by omega), List.drop_of_length_le (by omega)]; rfl
  | n + 1, k + 1, i, h, hk => by
    have hi : i < o.length := by omega
    have e1 : IntKind.i64.wrap ((i : Int) + 1) = ((i + 1 : Nat) : Int) := wrapN (by omega)
    rw [F18_l4, if_pos (by omega), List.drop_eq_getElem_cons hi, rdI_at hi]
    simp only [Option.bind_some, lt_code, e1]
    rw [pl]
    by_cases hy : lt o[i] x
    · rw [if_pos hy]
      simp only [hy, decide_true, if_true]
      rw [F18_l4_spec o x hl n k (i + 1) (by omega) (by omega)]; congr 2; omega
    · rw [if_neg hy]
      simp only [hy, decide_false, Bool.false_eq_true, if_false]; rfl
theorem pl_ins (x : ByteArray) : ∀ o : List ByteArray, (o[pl x o]? = some x → insS x o = o) ∧ (o[pl x o]? ≠ some x → insS x o = o.take (pl x o) ++ [x] ++ o.drop (pl x o))
  | [] => by simp [pl, insS]
  | y :: l => by
    have ih := pl_ins x l
    unfold pl insS
    by_cases hy : lt y x
    · rw [if_pos hy, if_pos hy]
      simp only [List.getElem?_cons_succ, List.take_succ_cons, List.drop_succ_cons]
      exact ⟨fun h => by rw [ih.1 h], fun h => by rw [ih.2 h]; simp⟩
    · rw [if_neg hy, if_neg hy]
      simp only [List.getElem?_cons_zero, Option.some.injEq]
      exact ⟨fun h => by rw [if_pos h], fun h => by rw [if_neg (fun e => h (by rw [e]))]; simp⟩
theorem F18_l1_spec : ∀ (l : List ByteArray) (i : Nat) (o : List ByteArray), o.length + l.length ≤ 1999990 → F18_l1 l i o = some (l.foldl (fun o x => insS x o) o)
  | [], i, o, _ => rfl
  | x :: l, i, o, h => by
    simp only [List.length_cons] at h
    have hp := pl_le x o
    have hi := pl_ins x o
    have hil := insS_len x o
    rw [F18_l1]
    have h4 := F18_l4_spec o x (by omega) o.length 1099511627776 0 (by omega) (by omega)
    rw [List.drop_zero, Nat.zero_add] at h4
    rw [show F18_l4 o x 1099511627776 0 = _ from h4]
    simp only [Option.bind_some]
    have key : (if (pl x o : Int) < (o.length : Int) then (rdI o (pl x o : Int)).bind fun y11 => some (decide (y11 = x)) else some false : Option Bool) = some (decide (o[pl x o]? = some x)) := by
      by_cases hlt : pl x o < o.length
      · rw [if_pos (by omega), rdI_at hlt, List.getElem?_eq_getElem hlt]; simp
      · rw [if_neg (by omega), List.getElem?_eq_none (by omega)]; simp
    rw [key]
    simp only [Option.bind_some, decide_eq_true_eq]
    by_cases hx : o[pl x o]? = some x
    · rw [if_pos hx]
      simp only [Option.bind_some]
      rw [F18_l1_spec l (i + 1) o (by omega), List.foldl_cons, hi.1 hx]
    · rw [if_neg hx]
      have s1 : slI o 0 (pl x o : Int) = some (o.take (pl x o)) := by
        have := slI_t (xs := o) (l := 0) (h := pl x o) (by omega) (by omega)
        rw [List.drop_zero, Nat.sub_zero] at this; exact this
      rw [s1]
      simp only [Option.bind_some]
      rw [apI_t (by simp; omega)]
      simp only [Option.bind_some, List.nil_append]
      rw [apI_t (by simp; omega)]
      simp only [Option.bind_some]
      rw [slI_t (by omega : pl x o ≤ o.length) (Nat.le_refl _)]
      simp only [Option.bind_some]
      rw [apI_t (by simp; omega)]
      simp only [Option.bind_some]
      have e : o.take (pl x o) ++ [x] ++ (o.drop (pl x o)).take (o.length - pl x o) = insS x o := by
        rw [show (o.drop (pl x o)).take (o.length - pl x o) = o.drop (pl x o) from List.take_of_length_le (by rw [List.length_drop]; omega), hi.2 hx]
      rw [e, F18_l1_spec l (i + 1) _ (by omega), List.foldl_cons]
theorem foldS_pw : ∀ (l : List ByteArray) {o : List ByteArray}, o.Pairwise lt → (l.foldl (fun o x => insS x o) o).Pairwise lt
  | [], _, h => h
  | x :: l, _, h => foldS_pw l (insS_pw x h)
theorem foldS_mem (z : ByteArray) : ∀ (l o : List ByteArray), z ∈ l.foldl (fun o x => insS x o) o ↔ z ∈ o ∨ z ∈ l
  | [], o => by simp
  | x :: l, o => by
    rw [List.foldl_cons, foldS_mem z l, insS_mem, List.mem_cons]
    exact ⟨fun h => h.elim (fun h => h.elim (fun h => .inr (.inl h)) .inl) fun h => .inr (.inr h), fun h => h.elim (fun h => .inl (.inr h)) fun h => h.elim (fun h => .inl (.inl h)) .inr⟩
theorem F18_spec {l : List ByteArray} (h : l.length ≤ 1999990) : F18 l = some (names l) := by
  unfold F18
  rw [ck_t ⟨Nat.zero_le _, by omega⟩, Option.bind_some, F18_l1_spec l 0 [] (by simp; omega), Option.bind_some]
  congr 1
  refine pw_uniq (foldS_pw l List.Pairwise.nil) (names_pw l) fun z => ?_
  rw [foldS_mem, names_mem]; simp

/-! Want. -/
def cap (n m : Int) : Int := if m < (if n < 0 then 0 else n) then m else (if n < 0 then 0 else n)
theorem cap_ref (n m : Int) (h : 0 ≤ m) : (if (if 0 < n then n else 0) < m then (if 0 < n then n else 0) else m) = cap n m := by unfold cap; split <;> split <;> split <;> (try split) <;> omega
def wantE (k : ByteArray) (c : Int) (l : List ByteArray) (t : Int) : E := ⟨k, cap c 1000000000000000, names l, cap t 1000000000000⟩
theorem F10_spec {l : List E} (h : G l) (k : ByteArray) (c : Int) {ds : List ByteArray} (hd : ds.length ≤ 1999990) (t : Int) : F10 l k c ds t = some (putE (wantE k c ds t) l) := by
  have hn := h.n
  have h24 := F24_spec hd
  unfold F10
  rw [F22_spec h]
  simp only [Option.bind_some, F25]
  rw [Option.bind_eq_some_iff] at h24
  obtain ⟨u, h1, h2⟩ := h24
  rw [h1]
  simp only [Option.bind_some]
  rw [h2]
  simp only [Option.bind_some]
  have e : (match l.find? (isK k) with
      | some m => (l.filter (ne k), m.Key, m.Creates, m.Deletes, m.Since, true)
      | none => (l, (⟨#[]⟩ : ByteArray), 0, [], 0, false)).1 = l.filter (ne k) := by
    cases hf : l.find? (isK k) with
    | none => exact (find_fil hf).symm
    | some m => rfl
  rw [e]
  have := F26_spec h.s (by omega) (wantE k c ds t)
  show (F26 (l.filter (ne k)) (wantE k c ds t)).bind _ = _
  rw [show l.filter (ne k) = l.filter (ne (wantE k c ds t).Key) from rfl, this]; rfl
theorem F11_spec {l : List E} (h : G l) (k : ByteArray) (c : Int) {ds : List ByteArray} (hd : ds.length ≤ 1999990) (t : Int) : F11 l k c ds t = some (putE (wantE k c ds t) l) := by
  have hn := h.n
  unfold F11
  simp only [F28, Option.bind_some]
  rw [F18_spec hd]
  simp only [Option.bind_some, cap_ref c 1000000000000000 (by omega), cap_ref t 1000000000000 (by omega)]
  show (F27 l (wantE k c ds t)).bind _ = _
  rw [F27_spec h.s (by omega)]; rfl

/-! The reference's find. -/
theorem fip_find {α : Type} (p : α → Bool) : ∀ l : List α, l[fip p l]? = l.find? p
  | [] => rfl
  | y :: l => by
    unfold fip
    by_cases h : p y = true
    · rw [if_pos h, List.find?_cons_of_pos h]; rfl
    · rw [if_neg h, List.find?_cons_of_neg h, List.getElem?_cons_succ, fip_find p l]
theorem F29_l1_spec (k : ByteArray) : ∀ (l : List E) (i : Nat), F29_l1 k l i = some (if fip (isK k) l < l.length then .inl ((i + fip (isK k) l : Nat) : Int) else .inr ())
  | [], i => rfl
  | y :: l, i => by
    have ih := F29_l1_spec k l (i + 1)
    rw [F29_l1]
    by_cases h1 : y.Key = k
    · have e : fip (isK k) (y :: l) = 0 := by rw [fip, if_pos (by simp [isK, h1])]
      rw [if_pos h1, e, if_pos (by simp)]; rfl
    · have e : fip (isK k) (y :: l) = fip (isK k) l + 1 := by rw [fip, if_neg (by simp [isK, h1])]
      rw [if_neg h1, e, ih, List.length_cons]
      by_cases h2 : fip (isK k) l < l.length
      · rw [if_pos h2, if_pos (by omega)]; congr 3; omega
      · rw [if_neg h2, if_neg (by omega)]
theorem F29_spec {l : List E} (h : l.length ≤ 1000000) (k : ByteArray) : (l.find? (isK k) = none ∧ F29 l k = some (-1)) ∨ ∃ m i, l.find? (isK k) = some m ∧ F29 l k = some ((i : Nat) : Int) ∧ l[i]? = some m := by
  have hf := fip_find (isK k) l
  unfold F29
  rw [ck_t ⟨Nat.zero_le _, by omega⟩, Option.bind_some, F29_l1_spec, Option.bind_some]
  by_cases h1 : fip (isK k) l < l.length
  · rw [if_pos h1]
    exact .inr ⟨l[fip (isK k) l], fip (isK k) l, by rw [← hf, List.getElem?_eq_getElem h1], by simp, List.getElem?_eq_getElem h1⟩
  · rw [if_neg h1]
    exact .inl ⟨by rw [← hf, List.getElem?_eq_none (by omega)], rfl⟩
theorem F13_spec {l : List E} (h : G l) (k : ByteArray) : F13 l k = some (upd fC k l) := by
  have hn := h.n
  unfold F13 upd
  rcases F29_spec (l := l) (by omega) k with ⟨h1, h2⟩ | ⟨m, i, h1, h2, h3⟩
  · rw [h2, h1]; rfl
  · rw [h2, h1]
    simp only [Option.bind_some]
    rw [if_neg (by omega), rdI_nat, h3]
    simp only [Option.bind_some]
    have e : (if 0 < IntKind.i64.wrap (m.Creates - 1) then IntKind.i64.wrap (m.Creates - 1) else 0) = dn m.Creates := by unfold dn; split <;> split <;> omega
    rw [e, ← find_key h1]
    show (F27 l (fC m)).bind _ = _
    rw [F27_spec h.s (by omega)]; rfl
theorem F15_l3_spec (t : Int) (l : List E) (s : ByteArray) (m : E) (hm : rdI l t = some m) (hd : m.Deletes.length ≤ 1000) : ∀ (n k i : Nat) (o : List ByteArray), m.Deletes.length = i + n → n < k → o.length + n ≤ 1000000 →
    F15_l3 t l s k o (i : Int) = some (o ++ (m.Deletes.drop i).filter fun y => !decide (y = s))
  | _, 0, i, o, _, hk, _ => by omega
  | 0, k + 1, i, o, h, _, _ => by
    rw [F15_l3, hm]
    simp only [Option.bind_some]
    rw [if_neg (by omega), List.drop_of_length_le (by omega)]; simp
  | n + 1, k + 1, i, o, h, hk, ho => by
    have hi : i < m.Deletes.length := by omega
    have e1 : IntKind.i64.wrap ((i : Int) + 1) = ((i + 1 : Nat) : Int) := wrapN (by omega)
    rw [F15_l3, hm]
    simp only [Option.bind_some]
    rw [if_pos (by omega), rdI_at hi]
    simp only [Option.bind_some, e1]
    rw [List.drop_eq_getElem_cons hi]
    by_cases hy : m.Deletes[i] = s
    · rw [if_neg (by simpa using hy)]
      simp only [Option.bind_some]
      rw [F15_l3_spec t l s m hm hd n k (i + 1) o (by omega) (by omega) (by omega), List.filter_cons_of_neg (by simp [hy])]
    · rw [if_pos hy, apI_t (by simp; omega)]
      simp only [Option.bind_some]
      rw [F15_l3_spec t l s m hm hd n k (i + 1) _ (by omega) (by omega) (by simp; omega), List.filter_cons_of_pos (by simp [hy])]
      simp
theorem F15_spec {l : List E} (h : G l) (k s : ByteArray) : F15 l k s = some (upd (fD s) k l) := by
  have hn := h.n
  unfold F15 upd
  rcases F29_spec (l := l) (by omega) k with ⟨h1, h2⟩ | ⟨m, i, h1, h2, h3⟩
  · rw [h2, h1]; rfl
  · have hd := h.d m (mem_of_find h1)
    have hr : rdI l (i : Int) = some m := by rw [rdI_nat]; exact h3
    rw [h2, h1]
    simp only [Option.bind_some]
    rw [if_neg (by omega)]
    have := F15_l3_spec (i : Int) l s m hr hd m.Deletes.length 1099511627776 0 [] (by omega) (by omega) (by simp; omega)
    rw [List.drop_zero, List.nil_append] at this
    rw [show F15_l3 (i : Int) l s 1099511627776 [] 0 = _ from this]
    simp only [Option.bind_some]
    rw [hr]
    simp only [Option.bind_some]
    rw [← find_key h1]
    show (F27 l (fD s m)).bind _ = _
    rw [F27_spec h.s (by omega)]; rfl

/-! Met. -/
def metL (l : List E) (k : ByteArray) (now to : Int) : Bool := match l.find? (isK k) with
  | none => true
  | some m => decide (cap to 1000000000000 < IntKind.i64.wrap (cap now 1000000000000 - m.Since))
theorem F16_l1_spec (k : ByteArray) (now to : Int) : ∀ (l : List E) (i : Nat), F16_l1 k now to l i = some (match l.find? (isK k) with | none => .inr () | some m => .inl (decide (cap to 1000000000000 < IntKind.i64.wrap (cap now 1000000000000 - m.Since))))
  | [], i => rfl
  | y :: l, i => by
    rw [F16_l1]
    by_cases h : y.Key = k
    · rw [if_pos h, List.find?_cons_of_pos (by simp [isK, h])]; rfl
    · rw [if_neg h, List.find?_cons_of_neg (by simp [isK, h]), F16_l1_spec k now to l (i + 1)]
theorem F16_spec {l : List E} (h : l.length ≤ 1000000) (k : ByteArray) (now to : Int) : F16 l k now to = some (metL l k now to) := by
  unfold F16 metL
  rw [ck_t ⟨Nat.zero_le _, by omega⟩, Option.bind_some, F16_l1_spec, Option.bind_some]
  cases l.find? (isK k) <;> rfl
theorem F17_spec {l : List E} (h : l.length ≤ 1000000) (k : ByteArray) (now to : Int) : F17 l k now to = some (metL l k now to) := by
  unfold F17 metL
  rcases F29_spec h k with ⟨h1, h2⟩ | ⟨m, i, h1, h2, h3⟩
  · rw [h2, h1]; rfl
  · rw [h2, h1]
    simp only [Option.bind_some]
    rw [if_neg (by omega)]
    simp only [F28, Option.bind_some]
    rw [rdI_nat, h3]
    simp only [Option.bind_some, cap_ref now 1000000000000 (by omega), cap_ref to 1000000000000 (by omega)]

/-! The same. -/
theorem F21_l2_spec (l : List ByteArray) : ∀ n i, l.length = i + n → F21_l2 l (l.drop i) i = some (.inr ())
  | 0, i, h => by rw [List.drop_of_length_le (by omega)]; rfl
  | n + 1, i, h => by
    have hi : i < l.length := by omega
    rw [List.drop_eq_getElem_cons hi, F21_l2, rdI_at hi]
    simp only [Option.bind_some, not_true_eq_false, if_false]
    exact F21_l2_spec l n (i + 1) (by omega)
theorem F21_same (l : List ByteArray) (h : l.length ≤ 2000000) : F21 l l = some true := by
  unfold F21
  rw [if_neg (by simp), ck_t ⟨Nat.zero_le _, by omega⟩]
  have := F21_l2_spec l l.length 0 (by omega)
  rw [List.drop_zero] at this
  simp only [Option.bind_some, this]
theorem F9_l2_spec (l : List E) (hd : ∀ e ∈ l, e.Deletes.length ≤ 2000000) : ∀ n i, l.length = i + n → F9_l2 l (l.drop i) i = some (.inr ())
  | 0, i, h => by rw [List.drop_of_length_le (by omega)]; rfl
  | n + 1, i, h => by
    have hi : i < l.length := by omega
    rw [List.drop_eq_getElem_cons hi, F9_l2, rdI_at hi]
    simp only [Option.bind_some, not_true_eq_false, if_false]
    rw [F21_same _ (hd _ (List.getElem_mem hi))]
    simp only [Option.bind_some, nb, Bool.not_true, Bool.false_eq_true, if_false]
    exact F9_l2_spec l hd n (i + 1) (by omega)
theorem F9_same {l : List E} (h : l.length ≤ 2000000) (hd : ∀ e ∈ l, e.Deletes.length ≤ 2000000) : F9 l l = some true := by
  unfold F9
  rw [if_neg (by simp), ck_t ⟨Nat.zero_le _, by omega⟩]
  have := F9_l2_spec l hd l.length 0 (by omega)
  rw [List.drop_zero] at this
  simp only [Option.bind_some, this]

/-! Valid. -/
theorem F20_l18_spec (x : E) (hl : x.Deletes.length ≤ 2000000) : ∀ (n k i : Nat), x.Deletes.length ≤ i + n → n < k → 1 ≤ i → i ≤ 2000001 →
    F20_l18 x k (i : Int) = some (.inl (.inl false)) ∨ F20_l18 x k (i : Int) = some (.inr ())
  | _, 0, i, _, hk, _, _ => by omega
  | 0, k + 1, i, h, _, _, _ => by
    rw [F20_l18, if_neg (by omega)]; exact .inr rfl
  | n + 1, k + 1, i, h, hk, h1, h2 => by
    rw [F20_l18]
    by_cases hi : i < x.Deletes.length
    · have e1 : IntKind.i64.wrap ((i : Int) + 1) = ((i + 1 : Nat) : Int) := wrapN (by omega)
      have e2 : IntKind.i64.wrap ((i : Int) - 1) = ((i - 1 : Nat) : Int) := by rw [wrapI (by omega) (by omega)]; omega
      rw [if_pos (by omega), e2, rdI_at (by omega : i - 1 < x.Deletes.length), rdI_at hi]
      simp only [Option.bind_some, e1]
      split
      · exact .inl rfl
      · exact F20_l18_spec x hl n k (i + 1) (by omega) (by omega) (by omega) (by omega)
    · rw [if_neg (by omega)]; exact .inr rfl
theorem bad_code (x : E) : ∃ b, ((if x.Creates < 0 then some true else (if 1000000000000000 < x.Creates then some true else (if x.Since < 0 then some true else (if 1000000000000 < x.Since then some true else (if x.Creates = 0 then some (decide ((x.Deletes.length : Int) = 0)) else some false))))) : Option Bool) = some b ∧ (b = false → 0 ≤ x.Creates ∧ x.Creates ≤ 1000000000000000 ∧ 0 ≤ x.Since ∧ x.Since ≤ 1000000000000) := by
  by_cases h1 : x.Creates < 0
  · exact ⟨true, by rw [if_pos h1], fun h => by cases h⟩
  by_cases h2 : 1000000000000000 < x.Creates
  · exact ⟨true, by rw [if_neg h1, if_pos h2], fun h => by cases h⟩
  by_cases h3 : x.Since < 0
  · exact ⟨true, by rw [if_neg h1, if_neg h2, if_pos h3], fun h => by cases h⟩
  by_cases h4 : 1000000000000 < x.Since
  · exact ⟨true, by rw [if_neg h1, if_neg h2, if_neg h3, if_pos h4], fun h => by cases h⟩
  rw [if_neg h1, if_neg h2, if_neg h3, if_neg h4, nth_code]
  exact ⟨_, rfl, fun _ => ⟨by omega, by omega, by omega, by omega⟩⟩
theorem F20_l1_spec (l : List E) (hl : l.length ≤ 2000000) (hd : ∀ e ∈ l, e.Deletes.length ≤ 2000000) : ∀ n i, l.length = i + n →
    F20_l1 l (l.drop i) i = some (.inl false) ∨ F20_l1 l (l.drop i) i = some (.inr ()) ∧ ∀ j, i ≤ j → 0 < j → (hj : j < l.length) → ltK l[j - 1] l[j]
  | 0, i, h => by rw [List.drop_of_length_le (by omega)]; exact .inr ⟨rfl, fun j h1 _ hj => by omega⟩
  | n + 1, i, h => by
    have hi : i < l.length := by omega
    rw [List.drop_eq_getElem_cons hi, F20_l1]
    obtain ⟨b, hb, _⟩ := bad_code l[i]
    rw [hb]
    have hcond : ∃ c, ((if 0 < (i : Int) then (rdI l ((IntKind.i64.wrap (((i : Int)) - 1)))).bind fun y5 => (if (nb (Op.bytesLess y5.Key.toList l[i].Key.toList)) = true then some true else some b) else some b) : Option Bool) = some c ∧ (c = false → 0 < i → ltK l[i - 1] l[i]) := by
      by_cases h0 : 0 < i
      · have e2 : IntKind.i64.wrap ((i : Int) - 1) = ((i - 1 : Nat) : Int) := by rw [wrapI (by omega) (by omega)]; omega
        rw [if_pos (by omega), e2, rdI_at (by omega : i - 1 < l.length)]
        simp only [Option.bind_some, lt_code, nb_not]
        by_cases hlt : lt l[i - 1].Key l[i].Key
        · simp only [hlt, decide_true, Bool.not_true, Bool.false_eq_true, if_false]
          exact ⟨b, rfl, fun _ _ => hlt⟩
        · simp only [hlt, decide_false, Bool.not_false, if_true]
          exact ⟨true, rfl, fun h => by cases h⟩
      · rw [if_neg (by omega)]; exact ⟨b, rfl, fun _ h => absurd h h0⟩
    obtain ⟨c, hc, hc2⟩ := hcond
    rw [hc]
    simp only [Option.bind_some]
    cases c with
    | true => exact .inl rfl
    | false =>
      simp only [Bool.false_eq_true, if_false]
      have h18 := F20_l18_spec l[i] (hd _ (List.getElem_mem hi)) l[i].Deletes.length 1099511627776 1 (by omega) (by have := hd _ (List.getElem_mem hi); omega) (by omega) (by omega)
      rcases h18 with h18 | h18
      · rw [show F20_l18 l[i] 1099511627776 1 = _ from h18]; exact .inl rfl
      · rw [show F20_l18 l[i] 1099511627776 1 = _ from h18]
        simp only [Option.bind_some]
        rcases F20_l1_spec l hl hd n (i + 1) (by omega) with h3 | ⟨h3, h4⟩
        · exact .inl h3
        · refine .inr ⟨h3, fun j h5 h6 hj => ?_⟩
          by_cases hji : j = i
          · subst hji; exact hc2 rfl h6
          · exact h4 j (by omega) h6 hj
theorem pw_step {l : List E} (h : ∀ j, 0 < j → (hj : j < l.length) → ltK l[j - 1] l[j]) : l.Pairwise ltK := by
  rw [List.pairwise_iff_getElem]
  intro i j hi hj hij
  have : ∀ n i (hi : i < l.length) (hj : i + 1 + n < l.length), ltK l[i] l[i + 1 + n] := by
    intro n
    induction n with
    | zero => intro i hi hj; exact h (i + 1) (by omega) hj
    | succ n ih => intro i hi hj; exact lt_trans (ih i hi (by omega)) (h (i + 1 + (n + 1)) (by omega) hj)
  have h2 := this (j - i - 1) i hi (by omega)
  have e : i + 1 + (j - i - 1) = j := by omega
  simpa [e] using h2
theorem F7_l2_spec : ∀ (l : List E) (i : Nat), F7_l2 l i = some (.inl false) ∨ F7_l2 l i = some (.inr ()) ∧ ∀ e ∈ l, e.Deletes.length ≤ 30
  | [], i => .inr ⟨rfl, by simp⟩
  | y :: l, i => by
    rw [F7_l2]
    by_cases h : 30 < (y.Deletes.length : Int)
    · rw [if_pos h]; exact .inl rfl
    · rw [if_neg h]
      rcases F7_l2_spec l (i + 1) with h1 | ⟨h1, h2⟩
      · exact .inl h1
      · refine .inr ⟨h1, fun e he => ?_⟩
        rcases List.mem_cons.1 he with rfl | he
        · omega
        · exact h2 e he
structure Vd (l : List E) : Prop extends G l where
  n30 : l.length ≤ 30
  d30 : ∀ e ∈ l, e.Deletes.length ≤ 30
theorem F7_spec {l : List E} : ∃ b, F7 l = some b ∧ (b = true → Vd l) := by
  unfold F7
  by_cases h : 30 < (l.length : Int)
  · rw [if_pos h]; exact ⟨false, rfl, fun h => by cases h⟩
  · rw [if_neg h, ck_t ⟨Nat.zero_le _, by omega⟩, Option.bind_some]
    rcases F7_l2_spec l 0 with h1 | ⟨h1, h2⟩
    · rw [h1]; exact ⟨false, rfl, fun h => by cases h⟩
    · rw [h1]
      simp only [Option.bind_some]
      unfold F20
      rw [ck_t ⟨Nat.zero_le _, by omega⟩, Option.bind_some]
      have := F20_l1_spec l (by omega) (fun e he => by have := h2 e he; omega) l.length 0 (by omega)
      rw [List.drop_zero] at this
      rcases this with h3 | ⟨h3, h4⟩
      · rw [h3]; exact ⟨false, rfl, fun h => by cases h⟩
      · rw [h3]
        exact ⟨true, rfl, fun _ => ⟨⟨pw_step fun j h5 h6 => h4 j (Nat.zero_le _) h5 h6, by omega, fun e he => by have := h2 e he; omega⟩, by omega, h2⟩⟩
theorem putE_G {l : List E} (h : Vd l) {x : E} (hx : x.Deletes.length ≤ 1000) : G (putE x l) := by
  have h1 := putE_len x l
  have h2 := h.n30
  refine ⟨putE_pw h.s, by omega, fun e he => ?_⟩
  rcases putE_mem he with rfl | he
  · exact hx
  · exact h.d e he
theorem len_of {ds : List ByteArray} {n : Nat} (h : (wL wS) ds + n ≤ 1048576) : ds.length ≤ 1048576 := by
  unfold wL at h
  have := wsum_le (w := wS) (fun a => by unfold wS; omega) ds
  omega

theorem G_nil : G [] := ⟨List.Pairwise.nil, by simp, fun e he => by cases he⟩
theorem F10_ex : F10 [] ⟨#[97]⟩ 1 (lit [(⟨#[121]⟩ : ByteArray), (⟨#[120]⟩ : ByteArray), (⟨#[121]⟩ : ByteArray)]) 5 = some [⟨⟨#[97]⟩, 1, [⟨#[120]⟩, ⟨#[121]⟩], 5⟩] := by
  rw [F10_spec G_nil _ _ (by simp [lit]) _]
  have hn : names (lit [(⟨#[121]⟩ : ByteArray), (⟨#[120]⟩ : ByteArray), (⟨#[121]⟩ : ByteArray)]) = [⟨#[120]⟩, ⟨#[121]⟩] := by
    refine pw_uniq (names_pw _) ?_ fun z => ?_
    · refine List.pairwise_cons.2 ⟨fun z hz => ?_, by simp⟩
      simp only [List.mem_singleton] at hz
      subst hz
      rw [lt_bl]; decide
    · rw [names_mem]
      simp only [lit, List.mem_cons, List.not_mem_nil, or_false]
      exact ⟨fun h => h.elim .inr fun h => h, fun h => h.elim (fun h => .inr (.inl h)) .inl⟩
  show some (one ⟨⟨#[97]⟩, cap 1 1000000000000000, names _, cap 5 1000000000000⟩) = _
  rw [hn]; rfl
theorem F8_true : F8 = some true := by
  unfold F8
  rw [F10_ex]
  kernel_rfl
theorem ExpectWants_pure : ExpectWants.Pure := by
  intro l k c ds now _ _ _ _ _ hw
  have hds : ds.length ≤ 1048576 := len_of (n := 0) (by omega)
  unfold F3
  obtain ⟨b, hb, hv⟩ := F7_spec (l := l)
  rw [hb, F8_true]
  simp only [Option.bind_some, nb_not]
  cases b with
  | false => rfl
  | true =>
    have hV := hv rfl
    simp only [Bool.not_true, Bool.false_eq_true, if_false, Option.bind_some]
    by_cases h30 : 30 < (ds.length : Int)
    · simp [h30]
    · simp only [h30, decide_false, Bool.false_eq_true, if_false, if_true]
      rw [F10_spec hV.toG k c (by omega) now, F11_spec hV.toG k c (by omega) now]
      simp only [Option.bind_some]
      have hG := putE_G hV (x := wantE k c ds now) (by have := names_len ds; show (names ds).length ≤ _; omega)
      have := hG.n
      rw [F9_same (by omega) (fun e he => by have := hG.d e he; omega)]; rfl
theorem upd_G {l : List E} (h : Vd l) {f : E → E} (hf : ∀ e, (f e).Deletes.length ≤ e.Deletes.length) (k : ByteArray) : G (upd f k l) := by
  unfold upd
  cases hfi : l.find? (isK k) with
  | none => exact h.toG
  | some m =>
    have := h.d30 m (mem_of_find hfi)
    have := hf m
    exact putE_G h (by omega)
theorem fD_len (s : ByteArray) (e : E) : (fD s e).Deletes.length ≤ e.Deletes.length := List.length_filter_le ..
theorem ExpectSees_pure : ExpectSees.Pure := by
  intro l k s now to _ _ _ _ _ _
  unfold F4
  obtain ⟨b, hb, hv⟩ := F7_spec (l := l)
  rw [hb, F8_true]
  simp only [Option.bind_some, nb_not]
  cases b with
  | false => rfl
  | true =>
    have hV := hv rfl
    have hn := hV.n
    simp only [Bool.not_true, Bool.false_eq_true, if_false, if_true]
    rw [F12_spec hV.toG, F13_spec hV.toG]
    simp only [Option.bind_some]
    have h1 := upd_G hV (f := fC) (fun e => Nat.le_refl _) k
    have h1n := h1.n
    rw [F9_same (by omega) (fun e he => by have := h1.d e he; omega)]
    simp only [Option.bind_some, if_true]
    rw [F14_spec hV.toG, F15_spec hV.toG]
    simp only [Option.bind_some]
    have h2 := upd_G hV (fD_len s) k
    have h2n := h2.n
    rw [F9_same (by omega) (fun e he => by have := h2.d e he; omega)]
    simp only [Option.bind_some, if_true]
    rw [F16_spec (by omega), F17_spec (by omega)]
    simp
end Go.Proofs.Ytkgjaknjpdkaeaa
