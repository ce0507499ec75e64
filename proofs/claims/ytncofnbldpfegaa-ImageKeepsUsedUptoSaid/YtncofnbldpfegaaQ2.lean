/- The plain laws of seat 52: collecting. -/
import Derived.Test.YtncofnbldpfegaaQ
set_option linter.unusedVariables false
set_option linter.unusedSimpArgs false
namespace Go.Proofs.Ytncofnbldpfegaa
open Go Go.Fw

/-! Collecting. -/
instance (n : ByteArray) (l : List ByteArray) : Decidable (n ∈ l) := decidable_of_iff (∃ y ∈ l, y = n) (by simp)
theorem F31_l1_spec (n : ByteArray) : ∀ (l : List ByteArray) (i : Nat), F31_l1 n l i = some (.inr ()) ∧ n ∉ l ∨ (∃ k : Nat, F31_l1 n l i = some (.inl (k : Int))) ∧ n ∈ l
  | [], i => .inl ⟨rfl, by simp⟩
  | x :: l, i => by
    rw [F31_l1]
    by_cases h : n = x
    · rw [if_pos h]; exact .inr ⟨⟨i, rfl⟩, by simp [h]⟩
    · rw [if_neg h]
      rcases F31_l1_spec n l (i + 1) with ⟨h1, h2⟩ | ⟨h1, h2⟩
      · exact .inl ⟨h1, by simp [h, h2]⟩
      · exact .inr ⟨h1, by simp [h2]⟩
theorem F28_spec (l : List ByteArray) (n : ByteArray) (hb : l.length ≤ 4294967290) : F28 l n = some (decide (n ∈ l)) := by
  unfold F28 F31
  rw [ck_t ⟨Nat.zero_le _, hb⟩]
  simp only [Option.bind_some]
  rcases F31_l1_spec n l 0 with ⟨h1, h2⟩ | ⟨⟨k, h1⟩, h2⟩
  · rw [h1]; simp [h2]
  · rw [h1]; simp [h2]
theorem F29_l1_spec (n : ByteArray) : ∀ (l : List ByteArray) (i : Nat), F29_l1 n l i = some (if n ∈ l then .inl true else .inr ())
  | [], i => by simp [F29_l1]
  | x :: l, i => by
    rw [F29_l1, F29_l1_spec n l (i + 1)]
    by_cases h : x = n
    · rw [if_pos h]; simp [h]
    · have e : n ∈ x :: l ↔ n ∈ l := by simp only [List.mem_cons]; exact ⟨fun e => e.resolve_left fun e => h e.symm, .inr⟩
      rw [if_neg h]; by_cases h2 : n ∈ l
      · rw [if_pos h2, if_pos (e.2 h2)]
      · rw [if_neg h2, if_neg (fun h3 => h2 (e.1 h3))]
theorem F29_spec (l : List ByteArray) (n : ByteArray) (hb : l.length ≤ 4294967290) : F29 l n = some (decide (n ∈ l)) := by
  unfold F29
  rw [ck_t ⟨Nat.zero_le _, hb⟩, Option.bind_some, F29_l1_spec, Option.bind_some]
  by_cases h : n ∈ l <;> simp [h]
theorem F15_l1_spec (n : ByteArray) : ∀ (l : List ByteArray) (i : Nat), F15_l1 n l i = some (if n ∈ l then .inl true else .inr ())
  | [], i => by simp [F15_l1]
  | x :: l, i => by
    rw [F15_l1, F15_l1_spec n l (i + 1)]
    by_cases h : x = n
    · rw [if_pos h]; simp [h]
    · have e : n ∈ x :: l ↔ n ∈ l := by simp only [List.mem_cons]; exact ⟨fun e => e.resolve_left fun e => h e.symm, .inr⟩
      rw [if_neg h]; by_cases h2 : n ∈ l
      · rw [if_pos h2, if_pos (e.2 h2)]
      · rw [if_neg h2, if_neg (fun h3 => h2 (e.1 h3))]
theorem F15_spec (l : List ByteArray) (n : ByteArray) (hb : l.length ≤ 4294967290) : F15 l n = some (decide (n ∈ l)) := by
  unfold F15
  rw [ck_t ⟨Nat.zero_le _, hb⟩, Option.bind_some, F15_l1_spec, Option.bind_some]
  by_cases h : n ∈ l <;> simp [h]

theorem F14_l2_spec (b : List ByteArray) (a : List ByteArray) (hl : a.length = b.length) : ∀ n i, a.length = i + n → F14_l2 b (a.drop i) i = some (if a.drop i = b.drop i then .inr () else .inl false)
  | 0, i, h => by
    rw [List.drop_of_length_le (by omega), List.drop_of_length_le (by omega)]; rfl
  | n + 1, i, h => by
    have hi : i < a.length := by omega
    have hi' : i < b.length := by omega
    have ih := F14_l2_spec b a hl n (i + 1) (by omega)
    rw [List.drop_eq_getElem_cons hi, F14_l2, rdI_at hi', ih, List.drop_eq_getElem_cons hi']
    simp only [Option.bind_some, List.cons.injEq]
    by_cases he : a[i] = b[i]
    · rw [he, if_neg (by simp)]; simp
    · rw [if_pos he, if_neg (by simp [he])]; rfl
theorem F14_spec (a b : List ByteArray) (hb : a.length ≤ 4294967290) : F14 a b = some (decide (a = b)) := by
  unfold F14
  by_cases hl : a.length = b.length
  · rw [if_neg (by omega), ck_t ⟨Nat.zero_le _, hb⟩]
    have := F14_l2_spec b a hl a.length 0 (by omega)
    rw [List.drop_zero, List.drop_zero] at this
    simp only [Option.bind_some, this]
    by_cases h : a = b <;> simp [h]
  · rw [if_pos (by omega)]
    have : a ≠ b := fun h => hl (by rw [h])
    simp [this]

def tot : List Image → Int
  | [] => 0
  | x :: l => x.Size + tot l
theorem tot_le : ∀ {l : List Image}, (∀ x ∈ l, RangeOk x) → 0 ≤ tot l ∧ tot l ≤ 1000000000000000 * l.length
  | [], _ => by simp [tot]
  | x :: l, h => by
    have h1 := tot_le (l := l) fun y hy => h y (List.mem_cons_of_mem _ hy)
    have h2 := h x (List.mem_cons_self ..)
    obtain ⟨a1, a2, _⟩ := h2
    simp only [tot, List.length_cons]; omega
theorem F22_l1_spec : ∀ (l : List Image) (i : Nat) (a : Int), (∀ x ∈ l, RangeOk x) → 0 ≤ a → a + 1000000000000000 * l.length ≤ 64000000000000000 → F22_l1 l i a = some (a + tot l)
  | [], i, a, _, _, _ => by simp [F22_l1, tot]
  | x :: l, i, a, h, h0, hb => by
    obtain ⟨r1, r2, _⟩ := h x (List.mem_cons_self ..)
    simp only [List.length_cons] at hb
    rw [F22_l1, wrapI (by omega) (by omega), F22_l1_spec l (i + 1) _ (fun y hy => h y (List.mem_cons_of_mem _ hy)) (by omega) (by omega), tot]
    congr 1; omega
theorem F22_spec {l : List Image} (h : ∀ x ∈ l, RangeOk x) (hl : l.length ≤ 64) : F22 l = some (tot l) := by
  unfold F22
  rw [ck_t ⟨Nat.zero_le _, by omega⟩, Option.bind_some, F22_l1_spec l 0 0 h (by omega) (by omega)]; simp
theorem F16_l1_spec : ∀ (l : List Image) (i : Nat) (a : Int), (∀ x ∈ l, RangeOk x) → 0 ≤ a → a + 1000000000000000 * l.length ≤ 64000000000000000 → F16_l1 l i a = some (a + tot l)
  | [], i, a, _, _, _ => by simp [F16_l1, tot]
  | x :: l, i, a, h, h0, hb => by
    obtain ⟨r1, r2, _⟩ := h x (List.mem_cons_self ..)
    simp only [List.length_cons] at hb
    rw [F16_l1, wrapI (by omega) (by omega), F16_l1_spec l (i + 1) _ (fun y hy => h y (List.mem_cons_of_mem _ hy)) (by omega) (by omega), tot]
    congr 1; omega
theorem F16_spec {l : List Image} (h : ∀ x ∈ l, RangeOk x) (hl : l.length ≤ 64) : F16 l = some (tot l) := by
  unfold F16
  rw [ck_t ⟨Nat.zero_le _, by omega⟩, Option.bind_some, F16_l1_spec l 0 0 h (by omega) (by omega)]; simp

/-- The image that goes first, among the first i. -/
def Best (l : List Image) (keep : List ByteArray) (i : Nat) (c : Int) : Prop :=
  (c = -1 ∧ ∀ j y, j < i → l[j]? = some y → y.Name ∈ keep) ∨
  ∃ m x, c = ((m : Nat) : Int) ∧ m < i ∧ l[m]? = some x ∧ x.Name ∉ keep ∧ ∀ j y, j < i → l[j]? = some y → y.Name ∉ keep → x.Used ≤ y.Used ∧ (j < m → x.Used < y.Used)

theorem F23_l1_spec (l : List Image) (keep : List ByteArray) (hk : keep.length ≤ 4294967290) : ∀ n i c, l.length = i + n → Best l keep i c → ∃ r, F23_l1 l keep (l.drop i) i c = some r ∧ F25_l1 l keep (l.drop i) i c = some r ∧ Best l keep l.length r
  | 0, i, c, h, hb => by
    rw [List.drop_of_length_le (by omega)]
    have : l.length = i := h
    exact ⟨c, rfl, rfl, this ▸ hb⟩
  | n + 1, i, c, h, hb => by
    have hi : i < l.length := by omega
    have hli : l[i]? = some l[i] := List.getElem?_eq_getElem hi
    have main : ∃ b, (if (nb (decide (l[i].Name ∈ keep))) = true then (if c < 0 then some true else (rdI l c).bind fun y8 => some (decide (l[i].Used < y8.Used))) else some false) = some b ∧ Best l keep (i + 1) (if b = true then (i : Int) else c) := by
      by_cases hm : l[i].Name ∈ keep
      · refine ⟨false, by simp [hm, nb], ?_⟩
        rw [if_neg (by simp)]
        rcases hb with ⟨rfl, hb⟩ | ⟨m, x, rfl, h1, h2, h3, h4⟩
        · refine .inl ⟨rfl, fun j y hj hy => ?_⟩
          by_cases he : j = i
          · subst he; rw [hli] at hy; cases hy; exact hm
          · exact hb j y (by omega) hy
        · refine .inr ⟨m, x, rfl, by omega, h2, h3, fun j y hj hy hn => ?_⟩
          by_cases he : j = i
          · subst he; rw [hli] at hy; cases hy; exact (hn hm).elim
          · exact h4 j y (by omega) hy hn
      · rw [if_pos (by simp [hm, nb])]
        rcases hb with ⟨rfl, hb⟩ | ⟨m, x, rfl, h1, h2, h3, h4⟩
        · refine ⟨true, by rw [if_pos (by omega)], ?_⟩
          rw [if_pos rfl]
          refine .inr ⟨i, l[i], rfl, by omega, hli, hm, fun j y hj hy hn => ?_⟩
          by_cases he : j = i
          · subst he; rw [hli] at hy; cases hy; exact ⟨Int.le_refl _, fun h => by omega⟩
          · exact (hn (hb j y (by omega) hy)).elim
        · refine ⟨decide (l[i].Used < x.Used), by rw [if_neg (by omega), rdI_nat, h2]; rfl, ?_⟩
          by_cases hlt : l[i].Used < x.Used
          · rw [if_pos (by simpa using hlt)]
            refine .inr ⟨i, l[i], rfl, by omega, hli, hm, fun j y hj hy hn => ?_⟩
            by_cases he : j = i
            · subst he; rw [hli] at hy; cases hy; exact ⟨Int.le_refl _, fun h => by omega⟩
            · have := h4 j y (by omega) hy hn
              exact ⟨by omega, fun _ => by omega⟩
          · rw [if_neg (by simpa using hlt)]
            refine .inr ⟨m, x, rfl, by omega, h2, h3, fun j y hj hy hn => ?_⟩
            by_cases he : j = i
            · subst he; rw [hli] at hy; cases hy; exact ⟨by omega, fun h => by omega⟩
            · exact h4 j y (by omega) hy hn
    obtain ⟨b, e, hb'⟩ := main
    obtain ⟨r, h1, h2, h3⟩ := F23_l1_spec l keep hk n (i + 1) _ (by omega) hb'
    refine ⟨r, ?_, ?_, h3⟩
    · rw [List.drop_eq_getElem_cons hi, F23_l1, F28_spec _ _ hk]
      simp only [Option.bind_some]
      rw [e]
      simp only [Option.bind_some, ite_some]
      exact h1
    · rw [List.drop_eq_getElem_cons hi, F25_l1, F29_spec _ _ hk]
      simp only [Option.bind_some]
      rw [e]
      simp only [Option.bind_some, ite_some]
      exact h2
theorem F23_spec (l : List Image) (keep : List ByteArray) (hl : l.length ≤ 64) (hk : keep.length ≤ 4294967290) : ∃ r, F23 l keep = some r ∧ F25 l keep = some r ∧ Best l keep l.length r := by
  obtain ⟨r, h1, h2, h3⟩ := F23_l1_spec l keep hk l.length 0 (-1) (by omega) (.inl ⟨rfl, fun j y hj => by omega⟩)
  rw [List.drop_zero] at h1 h2
  refine ⟨r, ?_, ?_, h3⟩
  · unfold F23; rw [ck_t ⟨Nat.zero_le _, by omega⟩, Option.bind_some, h1]; rfl
  · unfold F25; rw [ck_t ⟨Nat.zero_le _, by omega⟩, Option.bind_some, h2]; rfl

/-- One image taken out. -/
theorem erase_at : ∀ {l : List Image} {i : Nat} {x : Image}, Srt l → l[i]? = some x → l.filter (fun y => decide (y.Name ≠ x.Name)) = l.take i ++ l.drop (i + 1)
  | [], i, x, _, h => by simp at h
  | a :: l, 0, x, hs, h => by
    simp only [List.getElem?_cons_zero, Option.some.injEq] at h
    subst h
    rw [List.filter_cons_of_neg (by simp)]
    simp only [List.take_zero, List.nil_append, Nat.zero_add, List.drop_succ_cons, List.drop_zero]
    exact List.filter_eq_self.2 fun y hy => by simpa using fun e => lt_ne (hs.1 y hy) e.symm
  | a :: l, i + 1, x, hs, h => by
    simp only [List.getElem?_cons_succ] at h
    have hx : x ∈ l := List.mem_of_getElem? h
    rw [List.filter_cons_of_pos (by simpa using lt_ne (hs.1 x hx)), erase_at hs.2 h]
    simp
theorem srt_filter (p : Image → Bool) : ∀ {l : List Image}, Srt l → Srt (l.filter p)
  | [], _ => trivial
  | a :: l, h => by
    by_cases hp : p a = true
    · rw [List.filter_cons_of_pos hp]
      exact ⟨fun y hy => h.1 y (List.mem_filter.1 hy).1, srt_filter p h.2⟩
    · rw [List.filter_cons_of_neg hp]; exact srt_filter p h.2
theorem tot_app : ∀ a b : List Image, tot (a ++ b) = tot a + tot b
  | [], b => by simp [tot]
  | x :: a, b => by rw [List.cons_append, tot, tot_app a b, tot]; omega
theorem split_at {l : List Image} {i : Nat} {x : Image} (h : l[i]? = some x) : l = l.take i ++ x :: l.drop (i + 1) := by
  obtain ⟨hi, rfl⟩ := List.getElem?_eq_some_iff.1 h
  rw [← List.drop_eq_getElem_cons hi, List.take_append_drop]

structure Inv (keep : List ByteArray) (l0 : List Image) (L : Int) (l : List Image) (out : List ByteArray) : Prop where
  flt : l = l0.filter (fun x => decide (x.Name ∉ out))
  len : l.length + out.length = l0.length
  fr : ∀ x ∈ l0, x.Name ∈ out → x.Name ∉ keep ∧ ∀ y ∈ l, y.Name ∉ keep → x.Used < y.Used ∨ x.Used = y.Used ∧ lt x.Name y.Name
  last : out ≠ [] → ∃ x ∈ l0, out.getLast? = some x.Name ∧ L < 100 * (tot l + x.Size)

theorem collect_loop (keep : List ByteArray) (x2 x3 x4 : Int) (l0 : List Image) (hk : keep.length ≤ 4294967290) (hr : ∀ x ∈ l0, RangeOk x) (hs : Srt l0) (hl0 : l0.length ≤ 64)
    (L : Int) (hL : L = cl x4 (cl x3 100) * cl x2 1000000000000000) (hLw : IntKind.i64.wrap (cl x4 (cl x3 100) * cl x2 1000000000000000) = L) :
    ∀ (k : Nat) (l : List Image) (out : List ByteArray), l.length < k → Inv keep l0 L l out →
    ∃ l' out', F12_l4 keep x2 x3 x4 k l out = some (l', out') ∧ (F13_l6 (cl x2 1000000000000000) (cl x4 (cl x3 100)) keep k l out = some (.inl (l', out')) ∨ F13_l6 (cl x2 1000000000000000) (cl x4 (cl x3 100)) keep k l out = some (.inr (l', out'))) ∧ Inv keep l0 L l' out' ∧ (100 * tot l' ≤ L ∨ ∀ y ∈ l', y.Name ∈ keep)
  | 0, l, out, h, _ => by omega
  | k + 1, l, out, h, hi => by
    have hmem : ∀ x ∈ l, x ∈ l0 := fun x hx => by rw [hi.flt] at hx; exact (List.mem_filter.1 hx).1
    have hrl : ∀ x ∈ l, RangeOk x := fun x hx => hr x (hmem x hx)
    have hll : l.length ≤ 64 := by have := hi.len; omega
    have hsl : Srt l := hi.flt ▸ srt_filter _ hs
    have ht := tot_le hrl
    have e1 : IntKind.i64.wrap (tot l * 100) = 100 * tot l := by rw [wrapI (by omega) (by omega)]; omega
    have e2 : IntKind.i64.wrap (100 * tot l) = 100 * tot l := by rw [wrapI (by omega) (by omega)]
    obtain ⟨r, hr1, hr2, hb⟩ := F23_spec l keep hll hk
    have f12 : F12_l4 keep x2 x3 x4 (k + 1) l out = (if L < 100 * tot l then (if r < 0 then some ((l, out)) else (rdI l r).bind fun y9 => (apI out ([y9.Name])).bind fun a10 => (delI l r ((IntKind.i64.wrap (r + 1)))).bind fun t11 => F12_l4 keep x2 x3 x4 k t11 a10) else some ((l, out))) := by
      rw [F12_l4, F22_spec hrl hll, Option.bind_some, e1]
      exact (congrArg (fun z => if z < 100 * tot l then (F23 l keep).bind fun t7 => (if t7 < 0 then some ((l, out)) else (rdI l t7).bind fun y9 => (apI out ([y9.Name])).bind fun a10 => (delI l t7 ((IntKind.i64.wrap (t7 + 1)))).bind fun t11 => F12_l4 keep x2 x3 x4 k t11 a10) else some ((l, out))) hLw).trans (by rw [hr1]; rfl)
    rw [f12, F13_l6, F16_spec hrl hll, Option.bind_some, e2, hLw, hr2, Option.bind_some]
    by_cases hc : L < 100 * tot l
    · rw [if_pos hc, if_pos hc]
      rcases hb with ⟨rfl, hb⟩ | ⟨m, x, rfl, h1, h2, h3, h4⟩
      · rw [if_pos (by omega), if_pos (by omega)]
        refine ⟨l, out, rfl, .inl rfl, hi, .inr fun y hy => ?_⟩
        obtain ⟨j, hj, rfl⟩ := List.mem_iff_getElem.1 hy
        exact hb j _ hj (List.getElem?_eq_getElem hj)
      · rw [if_neg (by omega), if_neg (by omega), rdI_nat, h2]
        simp only [Option.bind_some]
        have hxl : x ∈ l := List.mem_of_getElem? h2
        have hout : out.length + 1 ≤ 64 := by have := hi.len; omega
        rw [apI_t (by simp only [List.length_cons, List.length_nil]; omega)]
        have ew : IntKind.i64.wrap ((m : Int) + 1) = ((m + 1 : Nat) : Int) := by rw [wrapI (by omega) (by omega)]; omega
        have ed : delI l (m : Int) ((m + 1 : Nat) : Int) = some (l.take m ++ l.drop (m + 1)) := by
          unfold delI; rw [if_pos ⟨by omega, by omega, by omega, by omega⟩]; simp only [Int.toNat_natCast]
        have es1 : slI l 0 (m : Int) = some (l.take m) := by
          have := slI_t (xs := l) (l := 0) (h := m) (by omega) (by omega); simpa using this
        have es2 : slI l ((m + 1 : Nat) : Int) (l.length : Int) = some (l.drop (m + 1)) := by
          have := slI_t (xs := l) (l := m + 1) (h := l.length) (by omega) (by omega)
          rw [this, List.take_of_length_le (by simp)]
        rw [ew, ed, es1, es2]
        simp only [Option.bind_some]
        rw [apI_t (by simp; omega)]
        simp only [Option.bind_some, List.nil_append]
        rw [apI_t (by simp; omega)]
        simp only [Option.bind_some]
        have hel : (l.take m ++ l.drop (m + 1)).length + 1 = l.length := by
          simp only [List.length_append, List.length_take, List.length_drop]; omega
        have hsp := split_at h2
        have hsub : ∀ y ∈ l.take m ++ l.drop (m + 1), y ∈ l := fun y hy => by
          rcases List.mem_append.1 hy with hy | hy
          · exact List.mem_of_mem_take hy
          · exact List.mem_of_mem_drop hy
        refine collect_loop keep x2 x3 x4 l0 hk hr hs hl0 L hL hLw k _ _ (by omega) ⟨?_, ?_, ?_, ?_⟩
        · rw [← erase_at hsl h2, hi.flt, List.filter_filter]
          refine List.filter_congr fun y _ => ?_
          simp only [List.mem_append, List.mem_singleton]
          by_cases a1 : y.Name ∈ out <;> by_cases a2 : y.Name = x.Name <;> simp [a1, a2]
        · have := hi.len
          simp only [List.length_append, List.length_cons, List.length_nil] at hel ⊢; omega
        · intro z hz hzo
          rcases List.mem_append.1 hzo with hzo | hzo
          · obtain ⟨g1, g2⟩ := hi.fr z hz hzo
            exact ⟨g1, fun y hy => g2 y (hsub y hy)⟩
          · have hzx : z.Name = x.Name := by simpa using hzo
            have hze : z = x := by
              by_cases he : z = x
              · exact he
              · exfalso
                obtain ⟨i1, j1, rfl⟩ := List.mem_iff_getElem.1 hz
                obtain ⟨i2, j2, e⟩ := List.mem_iff_getElem.1 (hmem x hxl)
                have q1 := List.getElem?_eq_getElem j1
                have q2 := List.getElem?_eq_getElem j2
                rcases Nat.lt_trichotomy i1 i2 with hh | hh | hh
                · exact lt_ne (of_srt hs i1 i2 _ _ hh q1 q2) (by rw [hzx, e])
                · subst hh; exact he e
                · exact lt_ne (of_srt hs i2 i1 _ _ hh q2 q1) (by rw [hzx, e])
            subst hze
            refine ⟨h3, fun y hy hyk => ?_⟩
            rcases List.mem_append.1 hy with hy | hy
            · obtain ⟨j, hj, e⟩ := List.mem_iff_getElem.1 hy
              have hj' : j < m := by simp only [List.length_take] at hj; omega
              have ey : l[j]? = some y := by rw [← e, List.getElem_take]; exact List.getElem?_eq_getElem _
              exact .inl ((h4 j y (by omega) ey hyk).2 hj')
            · obtain ⟨j, hj, e⟩ := List.mem_iff_getElem.1 hy
              have hj' : m + 1 + j < l.length := by simp only [List.length_drop] at hj; omega
              have ey : l[m + 1 + j]? = some y := by rw [← e, List.getElem_drop]; exact List.getElem?_eq_getElem _
              have hle := (h4 _ y hj' ey hyk).1
              have hlt := of_srt hsl m (m + 1 + j) _ _ (by omega) h2 ey
              by_cases hq : z.Used < y.Used
              · exact .inl hq
              · exact .inr ⟨by omega, hlt⟩
        · intro _
          refine ⟨x, hmem x hxl, by simp, ?_⟩
          have : tot l = tot (l.take m ++ l.drop (m + 1)) + x.Size := by
            conv => lhs; rw [hsp]
            rw [tot_app, tot_app, tot]; omega
          omega
    · rw [if_neg hc, if_neg hc]
      exact ⟨l, out, rfl, .inr rfl, hi, .inl (by omega)⟩

theorem mul_bd {a b A B : Int} (h1 : 0 ≤ a ∧ a ≤ A) (h2 : 0 ≤ b ∧ b ≤ B) : 0 ≤ a * b ∧ a * b ≤ A * B :=
  ⟨Int.mul_nonneg h1.1 h2.1, Int.mul_le_mul h1.2 h2.2 h2.1 (by omega)⟩

theorem collect_spec (keep : List ByteArray) (x2 x3 x4 : Int) (l0 : List Image) (hk : keep.length ≤ 4294967290) (hv : Val l0) :
    ∃ l' out', F12 l0 keep x2 x3 x4 = some (l', out') ∧ F13 l0 keep x2 x3 x4 = some (l', out') ∧ Inv keep l0 (cl x4 (cl x3 100) * cl x2 1000000000000000) l' out' ∧
      (out' = [] → 100 * tot l' ≤ cl x3 100 * cl x2 1000000000000000 ∨ ∀ y ∈ l', y.Name ∈ keep) ∧
      (out' ≠ [] → 100 * tot l' ≤ cl x4 (cl x3 100) * cl x2 1000000000000000 ∨ ∀ y ∈ l', y.Name ∈ keep) := by
  obtain ⟨hr, hs, hl⟩ := (val_iff l0).1 hv
  have c1 := cl_le x2 1000000000000000 (by omega)
  have c2 := cl_le x3 100 (by omega)
  have c3 := cl_le x4 (cl x3 100) (by omega)
  have b1 := mul_bd c2 c1
  have b2 := mul_bd (A := 100) (And.intro c3.1 (by omega : cl x4 (cl x3 100) ≤ 100)) c1
  have b3 : cl x4 (cl x3 100) * cl x2 1000000000000000 ≤ cl x3 100 * cl x2 1000000000000000 := Int.mul_le_mul_of_nonneg_right c3.2 c1.1
  have w1 : IntKind.i64.wrap (cl x3 100 * cl x2 1000000000000000) = cl x3 100 * cl x2 1000000000000000 := wrapI (by omega) (by omega)
  have w2 : IntKind.i64.wrap (cl x4 (cl x3 100) * cl x2 1000000000000000) = cl x4 (cl x3 100) * cl x2 1000000000000000 := wrapI (by omega) (by omega)
  have ht := tot_le hr
  have e1 : IntKind.i64.wrap (tot l0 * 100) = 100 * tot l0 := by rw [wrapI (by omega) (by omega)]; omega
  have e2 : IntKind.i64.wrap (100 * tot l0) = 100 * tot l0 := by rw [wrapI (by omega) (by omega)]
  have i0 : Inv keep l0 (cl x4 (cl x3 100) * cl x2 1000000000000000) l0 [] := ⟨(List.filter_eq_self.2 (by simp)).symm, by simp, by simp, by simp⟩
  have hcl : cloneI l0 = some l0 := if_pos (by omega)
  have f12 : F12 l0 keep x2 x3 x4 = (if 100 * tot l0 ≤ cl x3 100 * cl x2 1000000000000000 then some ((l0, [])) else ((F12_l4 keep x2 x3 x4 1099511627776 l0 ([])).bind fun o4 => some ((o4.1, o4.2)))) := by
    unfold F12
    rw [hcl, Option.bind_some, F22_spec hr hl, Option.bind_some, e1]
    exact congrArg (fun z => if 100 * tot l0 ≤ z then some ((l0, [])) else ((F12_l4 keep x2 x3 x4 1099511627776 l0 ([])).bind fun o4 => some ((o4.1, o4.2)))) w1
  have f13 : F13 l0 keep x2 x3 x4 = (if 100 * tot l0 ≤ cl x3 100 * cl x2 1000000000000000 then some ((l0, [])) else ((F13_l6 (cl x2 1000000000000000) (cl x4 (cl x3 100)) keep 1099511627776 l0 ([])).bind fun o6 => match o6 with | Sum.inl f => some f | Sum.inr po6 => some ((po6.1, po6.2)))) := by
    unfold F13
    rw [F21_cl _ _ (by omega), Option.bind_some, F21_cl _ _ (by omega), Option.bind_some, F21_cl _ _ (by omega), Option.bind_some, F16_spec hr hl, Option.bind_some, e2, w1]
    rfl
  rw [f12, f13]
  by_cases hc : 100 * tot l0 ≤ cl x3 100 * cl x2 1000000000000000
  · rw [if_pos hc, if_pos hc]
    exact ⟨l0, [], rfl, rfl, i0, fun _ => .inl hc, fun h => (h rfl).elim⟩
  · rw [if_neg hc, if_neg hc]
    obtain ⟨l', out', h1, h2, h3, h4⟩ := collect_loop keep x2 x3 x4 l0 hk hr hs hl _ rfl w2 1099511627776 l0 [] (by omega) i0
    refine ⟨l', out', by rw [h1]; rfl, by rcases h2 with h2 | h2 <;> rw [h2] <;> rfl, h3, fun _ => h4.imp (fun h => by omega) id, fun _ => h4⟩

theorem keep_len {l : List Image} {k : List ByteArray} {a b c : Int} (h : (wL wImage) l + ((wL wS) k + (wN a + (wN b + (wN c + 0)))) ≤ 1048576) : l.length ≤ 1048576 ∧ k.length ≤ 1048576 := by
  have h1 := wL_len (w := wImage) (fun a => by simp [wImage]) l
  have h2 := wL_len (w := wS) wS_pos k
  omega

theorem ImageCollects_pure : ImageCollects.Pure := by
  intro l keep x2 x3 x4 _ _ _ _ _ hw
  obtain ⟨hb, hk⟩ := keep_len hw
  obtain ⟨b, h7, hv⟩ := F7_spec l (by omega)
  unfold F4
  rw [h7]
  simp only [Option.bind_some]
  cases b with
  | false => rw [if_pos (show nb false = true from rfl)]; simp [F8_true]
  | true =>
    have hval := hv.1 rfl
    rw [if_neg (by simp [nb])]
    simp only [Option.bind_some, decide_eq_true_eq]
    by_cases h100 : 100 < (keep.length : Int)
    · rw [if_pos h100, F8_true]; rfl
    · rw [if_neg h100]
      obtain ⟨l', out', h1, h2, h3, _⟩ := collect_spec keep x2 x3 x4 l (by omega) hval
      have hl := ((val_iff l).1 hval).2.2
      have := h3.len
      rw [h1, h2]
      simp only [Option.bind_some]
      rw [F10_spec _ _ (by omega), F14_spec _ _ (by omega), F8_true]
      simp

/-! KeepsUsed. -/
theorem F5_l15_spec (keep : List ByteArray) (x : Image) (hk : keep.length ≤ 4294967290) : ∀ (l : List Image) (i : Nat), (∀ y ∈ l, y.Name ∉ keep → x.Used < y.Used ∨ x.Used = y.Used ∧ lt x.Name y.Name) → F5_l15 keep x l i = some (.inr ())
  | [], i, _ => rfl
  | y :: l, i, h => by
    have ih := F5_l15_spec keep x hk l (i + 1) fun z hz => h z (List.mem_cons_of_mem _ hz)
    have hy := h y (List.mem_cons_self ..)
    rw [F5_l15, F15_spec _ _ hk, ih, Option.bind_some, bl_lt]
    by_cases hm : y.Name ∈ keep
    · rw [if_neg (by simp [hm, nb])]; rfl
    · rw [if_pos (by simp [hm, nb])]
      rcases hy hm with h1 | ⟨h1, h2⟩
      · rw [if_neg (by omega), if_neg (by omega)]; rfl
      · rw [if_neg (by omega), if_pos h1.symm, decide_eq_false (lt_asymm h2)]; rfl

theorem F5_l8_spec (keep : List ByteArray) (l0 kept : List Image) (out : List ByteArray) (L : Int) (hi : Inv keep l0 L kept out) (hk : keep.length ≤ 4294967290) (ho : out.length ≤ 64) (hkl : kept.length ≤ 64) :
    ∀ (xs : List Image) (i c : Nat), (∀ x ∈ xs, x ∈ l0) → kept.drop c = xs.filter (fun x => decide (x.Name ∉ out)) → F5_l8 (kept, out) keep xs i (c : Int) = some (.inr ())
  | [], i, c, _, _ => rfl
  | x :: xs, i, c, hm, hd => by
    have hx := hm x (List.mem_cons_self ..)
    have hm' : ∀ y ∈ xs, y ∈ l0 := fun y hy => hm y (List.mem_cons_of_mem _ hy)
    rw [F5_l8]
    dsimp only
    rw [F15_spec _ _ (by omega), Option.bind_some]
    by_cases hxo : x.Name ∈ out
    · rw [List.filter_cons_of_neg (by simpa using hxo)] at hd
      obtain ⟨g1, g2⟩ := hi.fr x hx hxo
      rw [if_pos (by simpa using hxo), F15_spec _ _ hk, Option.bind_some, if_neg (by simpa using g1), ck_t ⟨Nat.zero_le _, by omega⟩, Option.bind_some, F5_l15_spec keep x hk kept 0 g2]
      simp only [Option.bind_some]
      exact F5_l8_spec keep l0 kept out L hi hk ho hkl xs (i + 1) c hm' hd
    · rw [List.filter_cons_of_pos (by simpa using hxo)] at hd
      have hc : c < kept.length := by
        have := congrArg List.length hd
        simp only [List.length_drop, List.length_cons] at this; omega
      rw [List.drop_eq_getElem_cons hc, List.cons.injEq] at hd
      rw [if_neg (by simpa using hxo), if_neg (by omega), rdI_at hc, hd.1]
      have ew : IntKind.i64.wrap ((c : Int) + 1) = ((c + 1 : Nat) : Int) := by rw [wrapI (by omega) (by omega)]; omega
      simp only [Option.bind_some, and_self, not_true_eq_false, decide_false, Bool.false_eq_true, if_false, ew]
      exact F5_l8_spec keep l0 kept out L hi hk ho hkl xs (i + 1) (c + 1) hm' hd.2

theorem ImageKeepsUsed_pure : ImageKeepsUsed.Pure := by
  intro l keep x2 x3 x4 _ _ _ _ _ hw
  obtain ⟨hb, hk⟩ := keep_len hw
  obtain ⟨b, h7, hv⟩ := F7_spec l (by omega)
  unfold F5
  rw [h7]
  simp only [Option.bind_some]
  cases b with
  | false => rw [if_pos (show nb false = true from rfl)]; simp [F8_true]
  | true =>
    have hval := hv.1 rfl
    rw [if_neg (by simp [nb])]
    simp only [Option.bind_some, decide_eq_true_eq]
    by_cases h100 : 100 < (keep.length : Int)
    · rw [if_pos h100, F8_true]; rfl
    · rw [if_neg h100]
      obtain ⟨l', out', h1, h2, h3, _⟩ := collect_spec keep x2 x3 x4 l (by omega) hval
      have hl := ((val_iff l).1 hval).2.2
      have hlen := h3.len
      rw [h1]
      simp only [Option.bind_some]
      rw [wrapI (by omega) (by omega), if_neg (by omega), ck_t ⟨Nat.zero_le _, by omega⟩, Option.bind_some]
      have := F5_l8_spec keep l l' out' _ h3 (by omega) (by omega) (by omega) l 0 0 (fun _ h => h) (by rw [List.drop_zero]; exact h3.flt)
      rw [show ((0 : Nat) : Int) = 0 from rfl] at this
      rw [this, F8_true]; rfl

/-! Frees. -/
theorem F6_l14_spec (keep : List ByteArray) (hk : keep.length ≤ 4294967290) : ∀ (l : List Image) (i : Nat) (o : Bool), ∃ b, F6_l14 keep l i o = some b ∧ (o = true → (∀ y ∈ l, y.Name ∈ keep) → b = true)
  | [], i, o => ⟨o, rfl, fun h _ => h⟩
  | x :: l, i, o => by
    rw [F6_l14, F15_spec _ _ hk]
    cases o with
    | false =>
      obtain ⟨b, h1, h2⟩ := F6_l14_spec keep hk l (i + 1) false
      exact ⟨b, by simpa using h1, by simp⟩
    | true =>
      obtain ⟨b, h1, h2⟩ := F6_l14_spec keep hk l (i + 1) (decide (x.Name ∈ keep))
      exact ⟨b, by simpa using h1, fun _ h => h2 (by simpa using h x (List.mem_cons_self ..)) fun y hy => h y (List.mem_cons_of_mem _ hy)⟩
theorem F6_l25_spec (kept : List Image) (out : List ByteArray) (x : Image) (ho : out.getLast? = some x.Name) (hol : out.length ≤ 64) : ∀ (xs : List Image) (i : Nat) (o : Int), (∀ y ∈ xs, y.Name = x.Name → y = x) → (o = x.Size ∨ x ∈ xs) → F6_l25 (kept, out) xs i o = some x.Size
  | [], i, o, _, h => by rcases h with rfl | h; rfl; cases h
  | y :: xs, i, o, hu, h => by
    have hne : out.length ≠ 0 := fun h0 => by rw [List.length_eq_zero_iff.1 h0] at ho; cases ho
    have ew : IntKind.i64.wrap ((out.length : Int) - 1) = ((out.length - 1 : Nat) : Int) := by rw [wrapI (by omega) (by omega)]; omega
    have er : rdI out ((out.length - 1 : Nat) : Int) = some x.Name := by rw [rdI_nat, ← List.getLast?_eq_getElem?, ho]
    rw [F6_l25]
    simp only [ew, er, Option.bind_some, ite_some]
    refine F6_l25_spec kept out x ho hol xs (i + 1) _ (fun z hz => hu z (List.mem_cons_of_mem _ hz)) ?_
    by_cases hy : y.Name = x.Name
    · rw [if_pos hy]; rw [hu y (List.mem_cons_self ..) hy]; exact .inl rfl
    · rw [if_neg hy]
      rcases h with h | h
      · exact .inl h
      · rcases List.mem_cons.1 h with rfl | h
        · exact (hy rfl).elim
        · exact .inr h
theorem F6_l31_spec (keep : List ByteArray) (t x2 x4 : Int) (hk : keep.length ≤ 4294967290) : ∀ (l : List Image) (i : Nat), (¬ IntKind.i64.wrap (x4 * x2) < IntKind.i64.wrap (100 * t) ∨ ∀ y ∈ l, y.Name ∈ keep) → F6_l31 t keep x2 x4 l i = some (.inr ())
  | [], i, _ => rfl
  | y :: l, i, h => by
    have ih := F6_l31_spec keep t x2 x4 hk l (i + 1) (h.imp id fun h z hz => h z (List.mem_cons_of_mem _ hz))
    rw [F6_l31, F15_spec _ _ hk, ih, Option.bind_some]
    rcases h with h | h
    · rw [decide_eq_false h]; simp
    · rw [if_neg (by simp [h y (List.mem_cons_self ..), nb])]; rfl

theorem cl_id {n m : Int} (h1 : 0 ≤ n) (h2 : n ≤ m) : cl n m = n := by unfold cl; rw [if_neg (by omega : ¬ n < 0), if_neg (by omega)]

theorem ImageFrees_pure : ImageFrees.Pure := by
  intro l keep x2 x3 x4 _ _ _ _ _ hw
  obtain ⟨hb, hk⟩ := keep_len hw
  obtain ⟨b, h7, hv⟩ := F7_spec l (by omega)
  unfold F6
  rw [h7]
  simp only [Option.bind_some]
  cases b with
  | false => rw [if_pos (show nb false = true from rfl)]; simp [F8_true]
  | true =>
    have hval := hv.1 rfl
    rw [if_neg (by simp [nb])]
    by_cases h100 : 100 < (keep.length : Int)
    · simp [h100, F8_true]
    by_cases c1 : x2 < 0
    · simp [h100, c1, F8_true]
    by_cases c2 : 1000000000000000 < x2
    · simp [h100, c1, c2, F8_true]
    by_cases c3 : x4 < 0
    · simp [h100, c1, c2, c3, F8_true]
    by_cases c4 : x3 < x4
    · simp [h100, c1, c2, c3, c4, F8_true]
    by_cases c5 : 100 < x3
    · simp [h100, c1, c2, c3, c4, c5, F8_true]
    rw [if_neg h100, if_neg c1, if_neg c2, if_neg c3, if_neg c4, decide_eq_false c5]
    simp only [Option.bind_some, Bool.false_eq_true, if_false]
    obtain ⟨l', out', h1, h2, h3, h4, h5⟩ := collect_spec keep x2 x3 x4 l (by omega) hval
    have e2 : cl x2 1000000000000000 = x2 := cl_id (by omega) (by omega)
    have e3 : cl x3 100 = x3 := cl_id (by omega) (by omega)
    have e4 : cl x4 x3 = x4 := cl_id (by omega) (by omega)
    rw [e2, e3] at h4
    rw [e2, e3, e4] at h3 h5
    obtain ⟨hr, hs, hl⟩ := (val_iff l).1 hval
    have hlen := h3.len
    have hr' : ∀ x ∈ l', RangeOk x := fun x hx => hr x (by rw [h3.flt] at hx; exact (List.mem_filter.1 hx).1)
    have ht := tot_le hr'
    have b1 := mul_bd (A := 100) (And.intro (by omega : 0 ≤ x3) (by omega : x3 ≤ 100)) (And.intro (by omega : 0 ≤ x2) (by omega : x2 ≤ 1000000000000000))
    have b2 := mul_bd (A := 100) (And.intro (by omega : 0 ≤ x4) (by omega : x4 ≤ 100)) (And.intro (by omega : 0 ≤ x2) (by omega : x2 ≤ 1000000000000000))
    have w1 : IntKind.i64.wrap (x3 * x2) = x3 * x2 := wrapI (by omega) (by omega)
    have w2 : IntKind.i64.wrap (x4 * x2) = x4 * x2 := wrapI (by omega) (by omega)
    have w3 : IntKind.i64.wrap (100 * tot l') = 100 * tot l' := wrapI (by omega) (by omega)
    rw [h1]
    simp only [Option.bind_some]
    rw [F16_spec hr' (by omega), Option.bind_some]
    by_cases ho : out' = []
    · subst ho
      rw [if_pos (show ((([] : List ByteArray).length : Nat) : Int) = 0 from rfl), ck_t ⟨Nat.zero_le _, by omega⟩, Option.bind_some]
      obtain ⟨b, g1, g2⟩ := F6_l14_spec keep (by omega) l' 0 true
      rw [g1, Option.bind_some, w1, w3, F8_true]
      rcases h4 rfl with h | h
      · rw [if_pos h]; rfl
      · rw [g2 rfl h]; simp
    · have hol : out'.length ≠ 0 := fun h => ho (List.length_eq_zero_iff.1 h)
      obtain ⟨x, hx, hlast, hsz⟩ := h3.last ho
      rw [if_neg (by omega), ck_t ⟨Nat.zero_le _, by omega⟩, Option.bind_some]
      have hu : ∀ y ∈ l, y.Name = x.Name → y = x := fun y hy he => by
        by_cases hq : y = x
        · exact hq
        · exfalso
          obtain ⟨i1, j1, rfl⟩ := List.mem_iff_getElem.1 hy
          obtain ⟨i2, j2, rfl⟩ := List.mem_iff_getElem.1 hx
          have q1 := List.getElem?_eq_getElem j1
          have q2 := List.getElem?_eq_getElem j2
          rcases Nat.lt_trichotomy i1 i2 with hh | hh | hh
          · exact lt_ne (of_srt hs i1 i2 _ _ hh q1 q2) he
          · subst hh; exact hq rfl
          · exact lt_ne (of_srt hs i2 i1 _ _ hh q2 q1) he.symm
      rw [F6_l25_spec l' out' x hlast (by omega) l 0 0 hu (.inr hx), Option.bind_some, ck_t ⟨Nat.zero_le _, by omega⟩, Option.bind_some]
      rw [F6_l31_spec keep _ x2 x4 (by omega) l' 0 ((h5 ho).imp (fun h => by rw [w2, w3]; omega) id)]
      obtain ⟨s1, s2, _⟩ := hr x hx
      have hxl : tot l' + x.Size ≤ 64000000000000000 := by omega
      have w4 : IntKind.i64.wrap (tot l' + x.Size) = tot l' + x.Size := wrapI (by omega) (by omega)
      have w5 : IntKind.i64.wrap (100 * (tot l' + x.Size)) = 100 * (tot l' + x.Size) := wrapI (by omega) (by omega)
      simp only [Option.bind_some]
      rw [w2, w4, w5, if_pos hsz, F8_true]; rfl
end Go.Proofs.Ytncofnbldpfegaa
