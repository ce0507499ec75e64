/- The plain laws of seat 52. -/
import Derived.Test.YtncofnbldpfegaaP
import Derived.Test.YtncofnbldpfegaaFP
set_option linter.unusedVariables false
set_option linter.unusedSimpArgs false
namespace Go.Proofs.Ytncofnbldpfegaa
open Go Go.Fw

theorem F8_true : F8 = some true := by kernel_rfl

/-! Valid lists. -/
def RangeOk (x : Image) : Prop := 0 ≤ x.Size ∧ x.Size ≤ 1000000000000000 ∧ 0 ≤ x.Used ∧ x.Used ≤ 1000000000000
def GoodAt (l : List Image) (j : Nat) : Prop := ∀ x, l[j]? = some x → RangeOk x ∧ (0 < j → ∀ y, l[j - 1]? = some y → lt y.Name x.Name)
def Val (l : List Image) : Prop := (∀ j, GoodAt l j) ∧ l.length ≤ 64

instance (l : List Image) (j : Nat) : Decidable (GoodAt l j) := by
  unfold GoodAt RangeOk
  cases h : l[j]? with
  | none => exact isTrue (by intro x hx; cases hx)
  | some x =>
    cases h2 : l[j - 1]? with
    | none => exact decidable_of_iff (0 ≤ x.Size ∧ x.Size ≤ 1000000000000000 ∧ 0 ≤ x.Used ∧ x.Used ≤ 1000000000000) ⟨fun h x hx => by cases hx; exact ⟨h, fun _ y hy => by cases hy⟩, fun h => (h x rfl).1⟩
    | some y => exact decidable_of_iff ((0 ≤ x.Size ∧ x.Size ≤ 1000000000000000 ∧ 0 ≤ x.Used ∧ x.Used ≤ 1000000000000) ∧ (0 < j → lt y.Name x.Name)) ⟨fun h x hx => by cases hx; exact ⟨h.1, fun h0 y hy => by cases hy; exact h.2 h0⟩, fun h => ⟨(h x rfl).1, fun h0 => (h x rfl).2 h0 y rfl⟩⟩

theorem F7_l1_spec (l : List Image) (hb : l.length ≤ 4294967290) : ∀ n i, l.length = i + n → ∃ r, F7_l1 l (l.drop i) i = some r ∧ (r = .inl false ∨ r = .inr ()) ∧ (r = .inr () ↔ ∀ j, i ≤ j → GoodAt l j)
  | 0, i, h => by
    rw [List.drop_of_length_le (by omega)]
    exact ⟨_, rfl, .inr rfl, by simp only [true_iff]; intro j hj x hx; have := (List.getElem?_eq_some_iff.1 hx).1; omega⟩
  | n + 1, i, h => by
    have hi : i < l.length := by omega
    obtain ⟨r, h1, h2, h3⟩ := F7_l1_spec l hb n (i + 1) (by omega)
    rw [List.drop_eq_getElem_cons hi, F7_l1]
    have hgood : GoodAt l i ↔ RangeOk l[i] ∧ (0 < i → ∀ y, l[i - 1]? = some y → lt y.Name l[i].Name) := by
      unfold GoodAt; rw [List.getElem?_eq_getElem hi]; simp
    have key : (if l[i].Size < 0 then some true else (if 1000000000000000 < l[i].Size then some true else (if l[i].Used < 0 then some true else (if 1000000000000 < l[i].Used then some true else (if 0 < (i : Int) then (rdI l ((IntKind.i64.wrap (((i : Int)) - 1)))).bind fun y9 => some (nb (Op.bytesLess y9.Name.toList l[i].Name.toList)) else some false))))) = some (decide (¬ GoodAt l i)) := by
      have e1 : ∀ {p q : Prop} [Decidable p] [Decidable q] , (p → q) → p → some true = some (decide q) := fun h hp => by simp [h hp]
      split
      · rename_i hc; exact e1 (fun hp hg => by have := (hgood.1 hg).1.1; omega) hc
      split
      · rename_i hc; exact e1 (fun hp hg => by have := (hgood.1 hg).1.2.1; omega) hc
      split
      · rename_i hc; exact e1 (fun hp hg => by have := (hgood.1 hg).1.2.2.1; omega) hc
      split
      · rename_i hc; exact e1 (fun hp hg => by have := (hgood.1 hg).1.2.2.2; omega) hc
      rename_i c1 c2 c3 c4
      have hr : RangeOk l[i] := ⟨by omega, by omega, by omega, by omega⟩
      split
      · rename_i hc
        have e : IntKind.i64.wrap ((i : Int) - 1) = ((i - 1 : Nat) : Int) := by rw [wrapI (by omega) (by omega)]; omega
        rw [e, rdI_at (by omega : i - 1 < l.length)]
        simp only [Option.bind_some, nb_bl]
        congr 1
        rw [decide_eq_decide, hgood]
        constructor
        · intro hn hg; exact hn (hg.2 (by omega) _ (List.getElem?_eq_getElem _))
        · intro hn hlt; exact hn ⟨hr, fun _ y hy => by rw [List.getElem?_eq_getElem (by omega)] at hy; cases hy; exact hlt⟩
      · rename_i hc
        have : GoodAt l i := hgood.2 ⟨hr, fun h0 => by omega⟩
        simp [this]
    rw [key]
    simp only [Option.bind_some, decide_eq_true_eq]
    by_cases hg : GoodAt l i
    · rw [if_neg (by simpa using hg)]
      refine ⟨r, h1, h2, h3.trans ⟨fun h j hj => ?_, fun h j hj => h j (by omega)⟩⟩
      by_cases he : j = i
      · subst he; exact hg
      · exact h j (by omega)
    · rw [if_pos hg]
      exact ⟨_, rfl, .inl rfl, by simp only [reduceCtorEq, false_iff]; exact fun h => hg (h i (Nat.le_refl _))⟩

theorem F7_spec (l : List Image) (hb : l.length ≤ 4294967290) : ∃ b, F7 l = some b ∧ (b = true ↔ Val l) := by
  obtain ⟨r, h1, h2, h3⟩ := F7_l1_spec l hb l.length 0 (by omega)
  rw [List.drop_zero] at h1
  unfold F7
  rw [ck_t ⟨Nat.zero_le _, hb⟩]
  simp only [Option.bind_some, h1]
  rcases h2 with rfl | rfl
  · exact ⟨false, rfl, by simp only [Bool.false_eq_true, false_iff]; intro hv; exact absurd (h3.2 fun j _ => hv.1 j) (by simp)⟩
  · have := h3.1 rfl
    refine ⟨decide ((l.length : Int) ≤ 64), rfl, ?_⟩
    simp only [decide_eq_true_eq]
    exact ⟨fun h => ⟨fun j => this j (Nat.zero_le _), by omega⟩, fun h => by have := h.2; omega⟩

/-- Valid lists, seen as lists. -/
def Srt : List Image → Prop
  | [] => True
  | x :: l => (∀ y ∈ l, lt x.Name y.Name) ∧ Srt l

theorem srt_of (l : List Image) : (∀ j x y, l[j]? = some x → l[j + 1]? = some y → lt x.Name y.Name) → Srt l := by
  induction l with
  | nil => intro _; trivial
  | cons x l ih =>
    intro h
    have hs := ih fun j a b ha hb => h (j + 1) a b (by simpa using ha) (by simpa using hb)
    refine ⟨?_, hs⟩
    cases l with
    | nil => intro y hy; cases hy
    | cons z l =>
      have hxz := h 0 x z rfl rfl
      intro y hy
      rcases List.mem_cons.1 hy with rfl | hy
      · exact hxz
      · exact lt_trans hxz (hs.1 y hy)
theorem of_srt {l : List Image} (h : Srt l) : ∀ (i j : Nat) x y, i < j → l[i]? = some x → l[j]? = some y → lt x.Name y.Name := by
  induction l with
  | nil => intro i j x y _ hx; simp at hx
  | cons a l ih =>
    intro i j x y hij hx hy
    cases j with
    | zero => omega
    | succ j =>
      simp only [List.getElem?_cons_succ] at hy
      cases i with
      | zero => simp at hx; subst hx; exact h.1 y (List.mem_of_getElem? hy)
      | succ i => exact ih h.2 i j x y (by omega) (by simpa using hx) hy

theorem val_iff (l : List Image) : Val l ↔ (∀ x ∈ l, RangeOk x) ∧ Srt l ∧ l.length ≤ 64 := by
  constructor
  · rintro ⟨h, hl⟩
    refine ⟨fun x hx => ?_, srt_of l fun j x y hx hy => ?_, hl⟩
    · obtain ⟨j, hj, rfl⟩ := List.mem_iff_getElem.1 hx
      exact (h j _ (List.getElem?_eq_getElem hj)).1
    · exact (h (j + 1) y hy).2 (by omega) x (by simpa using hx)
  · rintro ⟨h1, h2, h3⟩
    exact ⟨fun j x hx => ⟨h1 x (List.mem_of_getElem? hx), fun h0 y hy => of_srt h2 (j - 1) j y x (by omega) hy hx⟩, h3⟩

/-! Equality of lists. -/
theorem F10_l2_spec (b : List Image) (a : List Image) (hl : a.length = b.length) : ∀ n i, a.length = i + n → F10_l2 b (a.drop i) i = some (if a.drop i = b.drop i then .inr () else .inl false)
  | 0, i, h => by
    rw [List.drop_of_length_le (by omega), List.drop_of_length_le (by omega)]; rfl
  | n + 1, i, h => by
    have hi : i < a.length := by omega
    have hi' : i < b.length := by omega
    have ih := F10_l2_spec b a hl n (i + 1) (by omega)
    rw [List.drop_eq_getElem_cons hi, F10_l2, rdI_at hi', ih, List.drop_eq_getElem_cons hi']
    simp only [Option.bind_some, List.cons.injEq]
    by_cases he : a[i] = b[i]
    · rw [he, if_neg (by simp)]; simp
    · rw [if_pos, if_neg (by simp [he])]; rfl
      intro ⟨h1, h2, h3⟩
      apply he
      cases ha : a[i]; cases hb : b[i]
      simp_all
theorem F10_spec (a b : List Image) (hb : a.length ≤ 4294967290) : F10 a b = some (decide (a = b)) := by
  unfold F10
  by_cases hl : a.length = b.length
  · rw [if_neg (by omega), ck_t ⟨Nat.zero_le _, hb⟩]
    have := F10_l2_spec b a hl a.length 0 (by omega)
    rw [List.drop_zero, List.drop_zero] at this
    simp only [Option.bind_some, this]
    by_cases h : a = b <;> simp [h]
  · rw [if_pos (by omega)]
    have : a ≠ b := fun h => hl (by rw [h])
    simp [this]

/-! Use. -/
def cl (n m : Int) : Int := if m < (if n < 0 then 0 else n) then m else (if n < 0 then 0 else n)
theorem F21_cl (n m : Int) (hm : 0 ≤ m) : F21 n 0 m = some (cl n m) := by
  unfold F21 cl
  by_cases h1 : n < 0
  · simp only [h1, if_true, if_neg (show ¬ m < 0 by omega)]
  · simp only [h1, if_false]
    by_cases h2 : m < n <;> simp only [h2, if_true, if_false]
theorem cl_le (n m : Int) (hm : 0 ≤ m) : 0 ≤ cl n m ∧ cl n m ≤ m := by unfold cl; split <;> split <;> omega

def upd1 (x y : Image) : Image := ⟨x.Name, x.Size, if x.Used < y.Used then y.Used else x.Used⟩
def ins (x : Image) : List Image → List Image
  | [] => [x]
  | y :: l => if lt y.Name x.Name then y :: ins x l else if y.Name = x.Name then upd1 x y :: l else x :: y :: l
theorem ins_lt {x y : Image} {l : List Image} (h : lt y.Name x.Name) : ins x (y :: l) = y :: ins x l := by rw [ins]; exact if_pos h
theorem ins_eq {x y : Image} {l : List Image} (h : y.Name = x.Name) : ins x (y :: l) = upd1 x y :: l := by
  rw [ins, if_neg (by rw [h]; exact lt_irrefl _), if_pos h]
theorem ins_gt {x y : Image} {l : List Image} (h : lt x.Name y.Name) : ins x (y :: l) = x :: y :: l := by
  rw [ins, if_neg (lt_asymm h), if_neg (fun e => lt_ne h e.symm)]
def has (n : ByteArray) (l : List Image) : Prop := ∃ y ∈ l, y.Name = n
instance (n : ByteArray) (l : List Image) : Decidable (has n l) := inferInstanceAs (Decidable (∃ y ∈ l, y.Name = n))
def use (x : Image) (l : List Image) : List Image := if has x.Name l then ins x l else if 64 ≤ l.length then l else ins x l
/-- The first place that is not before a name. -/
def at_ (n : ByteArray) : List Image → Nat
  | [] => 0
  | y :: l => if lt y.Name n then at_ n l + 1 else 0
theorem at_le (n : ByteArray) : ∀ l, at_ n l ≤ l.length
  | [] => Nat.le_refl _
  | y :: l => by have := at_le n l; unfold at_; split <;> simp <;> omega

theorem F18_l1_spec (n : ByteArray) (l : List Image) : ∀ k i, l.length = i + k → F18_l1 n l (l.drop i) i = some (if at_ n (l.drop i) < (l.drop i).length then .inl ((i + at_ n (l.drop i) : Nat) : Int) else .inr ())
  | 0, i, h => by rw [List.drop_of_length_le (by omega)]; rfl
  | k + 1, i, h => by
    have hi : i < l.length := by omega
    have ih := F18_l1_spec n l k (i + 1) (by omega)
    rw [List.drop_eq_getElem_cons hi, F18_l1, rdI_at hi]
    simp only [Option.bind_some, F19, nb_bl, decide_eq_true_eq]
    by_cases hlt : lt l[i].Name n
    · have e : at_ n (l[i] :: l.drop (i + 1)) = at_ n (l.drop (i + 1)) + 1 := if_pos hlt
      simp only [e, List.length_cons]
      rw [if_neg (by simpa using hlt), ih]
      by_cases h2 : at_ n (l.drop (i + 1)) < (l.drop (i + 1)).length
      · rw [if_pos h2, if_pos (by omega)]; congr 3; omega
      · rw [if_neg h2, if_neg (by omega)]
    · have e : at_ n (l[i] :: l.drop (i + 1)) = 0 := if_neg hlt
      simp only [e, List.length_cons]
      rw [if_pos hlt, if_pos (by omega)]; rfl
theorem F18_spec (n : ByteArray) (l : List Image) (hb : l.length ≤ 4294967290) : F18 l n = some (if at_ n l < l.length then (at_ n l : Int) else -1) := by
  have := F18_l1_spec n l l.length 0 (by omega)
  rw [List.drop_zero] at this
  unfold F18
  rw [ck_t ⟨Nat.zero_le _, hb⟩]
  simp only [Option.bind_some, this]
  by_cases h : at_ n l < l.length
  · rw [if_pos h, if_pos h]; simp
  · rw [if_neg h, if_neg h]

theorem has_at {n : ByteArray} : ∀ {l : List Image}, Srt l → (has n l ↔ ∃ y, l[at_ n l]? = some y ∧ y.Name = n)
  | [], _ => by simp [has, at_]
  | y :: l, hs => by
    have ih := has_at (n := n) hs.2
    unfold at_
    by_cases hlt : lt y.Name n
    · rw [if_pos hlt, List.getElem?_cons_succ, ← ih]
      constructor
      · rintro ⟨z, hz, rfl⟩
        rcases List.mem_cons.1 hz with rfl | hz
        · exact (lt_irrefl _ hlt).elim
        · exact ⟨z, hz, rfl⟩
      · rintro ⟨z, hz, rfl⟩; exact ⟨z, List.mem_cons_of_mem _ hz, rfl⟩
    · rw [if_neg hlt]
      simp only [List.getElem?_cons_zero, Option.some.injEq, exists_eq_left']
      constructor
      · rintro ⟨z, hz, rfl⟩
        rcases List.mem_cons.1 hz with rfl | hz
        · rfl
        · exact (hlt (hs.1 z hz)).elim
      · rintro rfl; exact ⟨y, List.mem_cons_self .., rfl⟩

theorem ins_at (x : Image) : ∀ l : List Image, ins x l = match l[at_ x.Name l]? with
    | some y => if y.Name = x.Name then l.set (at_ x.Name l) (upd1 x y) else l.take (at_ x.Name l) ++ x :: l.drop (at_ x.Name l)
    | none => l ++ [x]
  | [] => rfl
  | y :: l => by
    have ih := ins_at x l
    unfold ins at_
    by_cases hlt : lt y.Name x.Name
    · rw [if_pos hlt, if_pos hlt, ih, List.getElem?_cons_succ]
      cases h : l[at_ x.Name l]? with
      | none => simp
      | some z => simp only; split <;> simp
    · rw [if_neg hlt, if_neg hlt]
      simp
theorem at_none {n : ByteArray} {l : List Image} : l[at_ n l]? = none ↔ ¬ at_ n l < l.length := by simp

theorem F9_spec (l : List Image) (n : ByteArray) (s u : Int) (hs : Srt l) (hl : l.length ≤ 64) : F9 l n s u = some (use ⟨n, cl s 1000000000000000, cl u 1000000000000⟩ l) := by
  have hx : ∀ x : Image, x.Name = n → use x l = (match l[at_ n l]? with
    | some y => if y.Name = n then l.set (at_ n l) (upd1 x y) else if 64 ≤ l.length then l else l.take (at_ n l) ++ x :: l.drop (at_ n l)
    | none => if 64 ≤ l.length then l else l ++ [x]) := by
    rintro x rfl
    unfold use
    rw [ins_at]
    have hh := has_at (n := x.Name) hs
    cases h : l[at_ x.Name l]? with
    | none =>
      rw [h] at hh
      rw [if_neg (by rw [hh]; simp)]
    | some y =>
      rw [h] at hh
      simp only [Option.some.injEq, exists_eq_left'] at hh
      by_cases hy : y.Name = x.Name
      · rw [if_pos (hh.2 hy)]; simp [hy]
      · rw [if_neg (fun h => hy (hh.1 h))]; simp [hy]
  rw [hx _ rfl]
  unfold F9
  have hcl : cloneI l = some l := if_pos (by omega)
  rw [hcl]
  simp only [Option.bind_some, F18_spec n l (by omega)]
  by_cases hlt : at_ n l < l.length
  · rw [if_pos hlt, if_pos (by omega), rdI_at hlt, List.getElem?_eq_getElem hlt]
    simp only [Option.bind_some, decide_eq_true_eq, Int.toNat_natCast]
    by_cases hy : l[at_ n l].Name = n
    · rw [if_pos hy, if_pos hy]; rfl
    · rw [if_neg hy, if_neg hy]
      by_cases h64 : 64 ≤ l.length
      · rw [if_pos (by omega), if_pos h64]
      · rw [if_neg (by omega), if_neg h64, if_neg (by omega)]
        have : insI l ((at_ n l : Nat) : Int) ⟨n, cl s 1000000000000000, cl u 1000000000000⟩ = some (l.take (at_ n l) ++ ⟨n, cl s 1000000000000000, cl u 1000000000000⟩ :: l.drop (at_ n l)) := by
          unfold insI; rw [if_pos ⟨by omega, by omega, by omega⟩]; simp
        exact (congrArg (·.bind some) this)
  · rw [if_neg hlt, if_neg (by omega), at_none.2 hlt]
    simp only [Option.bind_some, Bool.false_eq_true, if_false]
    by_cases h64 : 64 ≤ l.length
    · rw [if_pos (by omega), if_pos h64]
    · rw [if_neg (by omega), if_neg h64, if_pos (by omega)]
      have e1 : apI l [(⟨n, cl s 1000000000000000, cl u 1000000000000⟩ : Image)] = some (l ++ [⟨n, cl s 1000000000000000, cl u 1000000000000⟩]) := apI_t (by simp only [List.length_cons, List.length_nil]; omega)
      exact congrArg (·.bind some) e1

/-! The reference's Use. -/
theorem F11_l3_spec (n : ByteArray) (s : Int) : ∀ (l : List Image) (i : Nat) (u : Int) (out : List Image) (done : Bool), Srt l → out.length + 2 * l.length + 1 ≤ 1000 → (done = true → ∀ y ∈ l, lt n y.Name) →
    ∃ rest u' done', F11_l3 s n l i u out done = some (u', out ++ rest, done') ∧ (done = true → rest = l ∧ done' = true) ∧ (done = false → (done' = false → rest = l ∧ u' = u ∧ ins ⟨n, s, u⟩ l = l ++ [⟨n, s, u⟩]) ∧ (done' = true → rest = ins ⟨n, s, u⟩ l)) ∧ rest.length ≤ l.length + 1
  | [], i, u, out, done, _, _, _ => ⟨[], u, done, by simp [F11_l3], by simp, by cases done <;> simp [ins], by simp⟩
  | y :: l, i, u, out, done, hs, hl, hd => by
    simp only [List.length_cons] at hl
    rw [F11_l3]
    by_cases hy : y.Name = n
    · have hdf : done = false := by
        cases done with
        | false => rfl
        | true => exact (lt_irrefl _ (hy ▸ hd rfl y (List.mem_cons_self ..))).elim
      subst hdf
      obtain ⟨rest, u', d', h1, h2, _, h4⟩ := F11_l3_spec n s l (i + 1) (if u < y.Used then y.Used else u) (out ++ [⟨n, s, if u < y.Used then y.Used else u⟩]) true hs.2 (by simp; omega) (fun _ z hz => hy ▸ hs.1 z hz)
      obtain ⟨rfl, rfl⟩ := h2 rfl
      rw [if_pos hy, ite_some]
      simp only [Option.bind_some]
      rw [apI_t (by simp only [List.length_cons, List.length_nil]; omega)]
      simp only [Option.bind_some]
      rw [h1]
      refine ⟨⟨n, s, if u < y.Used then y.Used else u⟩ :: rest, u', true, by simp, by simp, fun _ => ⟨by simp, fun _ => ?_⟩, by simp⟩
      exact (ins_eq (x := ⟨n, s, u⟩) hy).symm
    · rw [if_neg hy]
      have he : (if nb done = true then some (nb (Op.bytesLess y.Name.toList n.toList || decide (y.Name = n))) else some false) = some (!done && decide (lt n y.Name)) := by
        rw [nb_le]; cases done <;> rfl
      rw [he]
      simp only [Option.bind_some]
      by_cases hc : done = false ∧ lt n y.Name
      · obtain ⟨rfl, hlt⟩ := hc
        obtain ⟨rest, u', d', h1, h2, _, h4⟩ := F11_l3_spec n s l (i + 1) u (out ++ [⟨n, s, u⟩] ++ [y]) true hs.2 (by simp; omega) (fun _ z hz => lt_trans hlt (hs.1 z hz))
        obtain ⟨rfl, rfl⟩ := h2 rfl
        rw [if_pos (by simp [hlt]), apI_t (by simp only [List.length_cons, List.length_nil]; omega)]
        simp only [Option.bind_some]
        rw [apI_t (by simp only [List.length_append, List.length_cons, List.length_nil]; omega)]
        simp only [Option.bind_some]
        rw [h1]
        refine ⟨⟨n, s, u⟩ :: y :: rest, u', true, by simp, by simp, fun _ => ⟨by simp, fun _ => ?_⟩, by simp⟩
        exact (ins_gt (x := ⟨n, s, u⟩) hlt).symm
      · obtain ⟨rest, u', d', h1, h2, h3, h4⟩ := F11_l3_spec n s l (i + 1) u (out ++ [y]) done hs.2 (by simp; omega) (fun h z hz => hd h z (List.mem_cons_of_mem _ hz))
        have hcf : ¬ ((!done && decide (lt n y.Name)) = true) := by
          cases done with
          | true => simp
          | false => simpa using hc
        rw [if_neg hcf]
        simp only [Option.bind_some]
        rw [apI_t (by simp only [List.length_cons, List.length_nil]; omega)]
        simp only [Option.bind_some]
        rw [h1]
        refine ⟨y :: rest, u', d', by simp, fun h => by simp [h2 h], fun h => ?_, by simp; omega⟩
        obtain ⟨g1, g2⟩ := h3 h
        have hlt : lt y.Name n := by
          have : ¬ lt n y.Name := fun h' => hc ⟨h, h'⟩
          exact lt_of_not this (fun e => hy e.symm)
        have hi : ins ⟨n, s, u⟩ (y :: l) = y :: ins ⟨n, s, u⟩ l := by rw [ins]; exact if_pos hlt
        exact ⟨fun hd' => ⟨by rw [(g1 hd').1], (g1 hd').2.1, by rw [hi, (g1 hd').2.2]; rfl⟩, fun hd' => by rw [hi, g2 hd']⟩

theorem ins_len (x : Image) : ∀ l : List Image, Srt l → (ins x l).length = if has x.Name l then l.length else l.length + 1
  | [], _ => by simp [ins, has]
  | y :: l, hs => by
    have ih := ins_len x l hs.2
    unfold ins
    by_cases h1 : lt y.Name x.Name
    · have : has x.Name (y :: l) ↔ has x.Name l := by
        unfold has; simp only [List.mem_cons, exists_eq_or_imp]
        exact ⟨fun h => h.resolve_left (lt_ne h1), .inr⟩
      rw [if_pos h1, List.length_cons, ih]
      by_cases h2 : has x.Name l
      · rw [if_pos h2, if_pos (this.2 h2)]; rfl
      · rw [if_neg h2, if_neg (fun h => h2 (this.1 h))]; rfl
    · rw [if_neg h1]
      by_cases h2 : y.Name = x.Name
      · rw [if_pos h2, if_pos ⟨y, List.mem_cons_self .., h2⟩]; simp
      · rw [if_neg h2, if_neg]
        · simp
        · rintro ⟨z, hz, he⟩
          rcases List.mem_cons.1 hz with rfl | hz
          · exact h2 he
          · exact h1 (he ▸ hs.1 z hz)

theorem F11_spec (l : List Image) (n : ByteArray) (s u : Int) (hs : Srt l) (hl : l.length ≤ 64) : F11 l n s u = some (use ⟨n, cl s 1000000000000000, cl u 1000000000000⟩ l) := by
  obtain ⟨rest, u', d', h1, _, h3, h4⟩ := F11_l3_spec n (cl s 1000000000000000) l 0 (cl u 1000000000000) [] false hs (by simp; omega) (by simp)
  obtain ⟨g1, g2⟩ := h3 rfl
  rw [List.nil_append] at h1
  unfold F11
  rw [F21_cl _ _ (by omega), F21_cl _ _ (by omega)]
  simp only [Option.bind_some]
  rw [ck_t ⟨Nat.zero_le _, by omega⟩]
  simp only [Option.bind_some]
  rw [h1]
  simp only [Option.bind_some]
  have hout : (if nb d' = true then (apI rest [⟨n, cl s 1000000000000000, u'⟩]).bind (fun a19 => some a19) else some rest) = some (ins ⟨n, cl s 1000000000000000, cl u 1000000000000⟩ l) := by
    cases d' with
    | true => rw [if_neg (by simp [nb]), g2 rfl]
    | false =>
      obtain ⟨e1, e2, e3⟩ := g1 rfl
      rw [if_pos (show nb false = true from rfl), apI_t (by simp only [List.length_cons, List.length_nil]; omega), e1, e2, e3]; rfl
  rw [hout]
  simp only [Option.bind_some]
  have hlen := ins_len ⟨n, cl s 1000000000000000, cl u 1000000000000⟩ l hs
  unfold use
  by_cases h : has n l
  · rw [if_pos h] at hlen
    rw [if_pos h, if_neg (by omega)]
  · rw [if_neg h] at hlen
    rw [if_neg h]
    by_cases h64 : 64 ≤ l.length
    · rw [if_pos h64, if_pos (by omega)]
    · rw [if_neg h64, if_neg (by omega)]

theorem mem_ins {x z : Image} : ∀ {l : List Image}, z ∈ ins x l → z ∈ l ∨ z.Name = x.Name ∧ z.Size = x.Size ∧ (z.Used = x.Used ∨ ∃ y ∈ l, z.Used = y.Used)
  | [], h => by simp [ins] at h; subst h; simp
  | y :: l, h => by
    unfold ins at h
    split at h
    · rcases List.mem_cons.1 h with rfl | h
      · exact .inl (List.mem_cons_self ..)
      · rcases mem_ins h with h | ⟨h1, h2, h3⟩
        · exact .inl (List.mem_cons_of_mem _ h)
        · exact .inr ⟨h1, h2, h3.imp id fun ⟨y, hy, e⟩ => ⟨y, List.mem_cons_of_mem _ hy, e⟩⟩
    · split at h
      · rcases List.mem_cons.1 h with rfl | h
        · refine .inr ⟨rfl, rfl, ?_⟩
          unfold upd1; simp only; split
          · exact .inr ⟨y, List.mem_cons_self .., rfl⟩
          · exact .inl rfl
        · exact .inl (List.mem_cons_of_mem _ h)
      · rcases List.mem_cons.1 h with rfl | h
        · exact .inr ⟨rfl, rfl, .inl rfl⟩
        · exact .inl h
theorem srt_ins (x : Image) : ∀ {l : List Image}, Srt l → Srt (ins x l)
  | [], _ => by simp [ins, Srt]
  | y :: l, hs => by
    unfold ins
    by_cases h1 : lt y.Name x.Name
    · rw [if_pos h1]
      refine ⟨fun z hz => ?_, srt_ins x hs.2⟩
      rcases mem_ins hz with h | ⟨h, _⟩
      · exact hs.1 z h
      · rw [h]; exact h1
    · rw [if_neg h1]
      by_cases h2 : y.Name = x.Name
      · rw [if_pos h2]
        exact ⟨fun z hz => by have := hs.1 z hz; rw [h2] at this; exact this, hs.2⟩
      · rw [if_neg h2]
        have hlt : lt x.Name y.Name := lt_of_not h1 h2
        refine ⟨fun z hz => ?_, hs⟩
        rcases List.mem_cons.1 hz with rfl | hz
        · exact hlt
        · exact lt_trans hlt (hs.1 z hz)
theorem val_use {x : Image} (hx : RangeOk x) {l : List Image} (h : Val l) : Val (use x l) := by
  rw [val_iff] at h ⊢
  obtain ⟨h1, h2, h3⟩ := h
  have hi : ∀ z ∈ ins x l, RangeOk z := fun z hz => by
    rcases mem_ins hz with h | ⟨_, e1, e2⟩
    · exact h1 z h
    · obtain ⟨r1, r2, r3, r4⟩ := hx
      rcases e2 with e2 | ⟨y, hy, e2⟩
      · exact ⟨by omega, by omega, by omega, by omega⟩
      · obtain ⟨q1, q2, q3, q4⟩ := h1 y hy
        exact ⟨by omega, by omega, by omega, by omega⟩
  have hlen := ins_len x l h2
  unfold use
  split
  · rename_i hh; rw [if_pos hh] at hlen; exact ⟨hi, srt_ins x h2, by omega⟩
  · rename_i hh; rw [if_neg hh] at hlen
    split
    · exact ⟨h1, h2, h3⟩
    · exact ⟨hi, srt_ins x h2, by omega⟩

theorem ins_ins (x : Image) : ∀ {l : List Image}, ins x (ins x l) = ins x l ∧ has x.Name (ins x l)
  | [] => by simp [ins, has, lt_irrefl, upd1]
  | y :: l => by
    obtain ⟨ih1, z, hz, hzn⟩ := ins_ins x (l := l)
    by_cases h1 : lt y.Name x.Name
    · have e : ins x (y :: l) = y :: ins x l := by rw [ins]; exact if_pos h1
      rw [e]
      refine ⟨?_, z, List.mem_cons_of_mem _ hz, hzn⟩
      rw [ins, if_pos h1, ih1]
    · by_cases h2 : y.Name = x.Name
      · have e : ins x (y :: l) = upd1 x y :: l := by rw [ins, if_neg h1, if_pos h2]
        rw [e]
        refine ⟨?_, _, List.mem_cons_self .., rfl⟩
        rw [ins_eq (x := x) (y := upd1 x y) rfl]
        congr 1
        unfold upd1; simp only [Image.mk.injEq, true_and]; split <;> first | rfl | omega | (split <;> omega)
      · have e : ins x (y :: l) = x :: y :: l := by rw [ins, if_neg h1, if_neg h2]
        rw [e]
        refine ⟨?_, _, List.mem_cons_self .., rfl⟩
        rw [ins_eq rfl]
        congr 1
        unfold upd1; cases x; simp
theorem use_use (x : Image) (l : List Image) : use x (use x l) = use x l := by
  obtain ⟨h1, h2⟩ := ins_ins x (l := l)
  by_cases h : has x.Name l
  · have e : use x l = ins x l := if_pos h
    rw [e, use, if_pos h2, h1]
  · by_cases h64 : 64 ≤ l.length
    · have e : use x l = l := by rw [use, if_neg h, if_pos h64]
      rw [e, e]
    · have e : use x l = ins x l := by rw [use, if_neg h, if_neg h64]
      rw [e, use, if_pos h2, h1]

theorem len_of_w {l : List Image} {n : Nat} (h : wL wImage l ≤ n) : l.length ≤ n := by
  have := wL_len (w := wImage) (fun a => by simp [wImage]) l; omega

theorem ImageUses_pure : ImageUses.Pure := by
  intro l n s u _ _ _ _ hw
  have hb : l.length ≤ 1048576 := len_of_w (by omega)
  obtain ⟨b, h7, hv⟩ := F7_spec l (by omega)
  unfold F3
  rw [h7]
  simp only [Option.bind_some]
  cases b with
  | false => rw [if_pos (show nb false = true from rfl), F8_true]; rfl
  | true =>
    have hval := hv.1 rfl
    have hvi := (val_iff l).1 hval
    rw [if_neg (by simp [nb]), F9_spec l n s u hvi.2.1 hvi.2.2, F11_spec l n s u hvi.2.1 hvi.2.2]
    have hr : RangeOk ⟨n, cl s 1000000000000000, cl u 1000000000000⟩ := ⟨(cl_le _ _ (by omega)).1, (cl_le _ _ (by omega)).2, (cl_le _ _ (by omega)).1, (cl_le _ _ (by omega)).2⟩
    have hu := val_use hr hval
    have hui := (val_iff _).1 hu
    obtain ⟨b2, h72, hv2⟩ := F7_spec (use ⟨n, cl s 1000000000000000, cl u 1000000000000⟩ l) (by have := hui.2.2; omega)
    have : b2 = true := hv2.2 hu
    subst this
    simp only [Option.bind_some]
    rw [F10_spec _ _ (by have := hui.2.2; omega), F9_spec _ n s u hui.2.1 hui.2.2, use_use]
    simp only [Option.bind_some, decide_true, nb, Bool.not_true, Bool.false_eq_true, if_false, h72]
    rw [F10_spec _ _ (by have := hui.2.2; omega), F8_true]
    simp
end Go.Proofs.Ytncofnbldpfegaa
