/- The plain laws, part 1. -/
import Derived.Test.YtdpbdbclninjaaaP
import Derived.Test.YtdpbdbclninjaaaFP
set_option linter.unusedVariables false
set_option linter.unusedSimpArgs false
namespace Go.Proofs.Ytdpbdbclninjaaa
open Go Go.Fw
set_option maxRecDepth 100000

abbrev W := WorkItem
/-! Lists of items. -/
def flt (k : ByteArray) (l : List W) : List W := l.filter (fun x => decide (x.Key ≠ k))
theorem flt_len (k : ByteArray) (l : List W) : (flt k l).length ≤ l.length := List.length_filter_le ..
/-- The first place of a key. -/
def fi (k : ByteArray) : List W → Nat
  | [] => 0
  | y :: l => if y.Key = k then 0 else fi k l + 1
theorem fi_le (k : ByteArray) : ∀ l, fi k l ≤ l.length
  | [] => Nat.le_refl _
  | y :: l => by have := fi_le k l; unfold fi; split <;> simp <;> omega
theorem fi_take (k : ByteArray) : ∀ l : List W, (l.take (fi k l)).filter (fun x => decide (x.Key ≠ k)) = l.take (fi k l)
  | [] => rfl
  | y :: l => by
    unfold fi
    by_cases h : y.Key = k
    · rw [if_pos h]; rfl
    · rw [if_neg h, List.take_succ_cons, List.filter_cons_of_pos (by simpa using h), fi_take k l]
theorem fi_at (k : ByteArray) : ∀ {l : List W}, fi k l < l.length → ∃ y, l[fi k l]? = some y ∧ y.Key = k
  | [], h => by simp [fi] at h
  | y :: l, h => by
    unfold fi at h ⊢
    by_cases h1 : y.Key = k
    · rw [if_pos h1]; exact ⟨y, rfl, h1⟩
    · rw [if_neg h1] at h ⊢
      obtain ⟨z, h2, h3⟩ := fi_at k (l := l) (by simp at h; omega)
      exact ⟨z, by simpa using h2, h3⟩
theorem fi_none (k : ByteArray) : ∀ {l : List W}, ¬ fi k l < l.length → ∀ y ∈ l, y.Key ≠ k
  | [], _, y, hy => by cases hy
  | x :: l, h, y, hy => by
    unfold fi at h
    by_cases h1 : x.Key = k
    · rw [if_pos h1] at h; simp at h
    · rw [if_neg h1] at h
      rcases List.mem_cons.1 hy with rfl | hy
      · exact h1
      · exact fi_none k (by simp at h; omega) y hy
theorem flt_none {k : ByteArray} {l : List W} (h : ∀ y ∈ l, y.Key ≠ k) : flt k l = l := List.filter_eq_self.2 fun y hy => by simpa using h y hy

theorem F55v1_l1_spec (b : ByteArray) (l : List W) : ∀ n i, l.length = i + n → F55v1_l1 b l (l.drop i) i = some (if fi b (l.drop i) < (l.drop i).length then .inl ((i + fi b (l.drop i) : Nat) : Int) else .inr ())
  | 0, i, h => by rw [List.drop_of_length_le (by omega)]; rfl
  | n + 1, i, h => by
    have hi : i < l.length := by omega
    have ih := F55v1_l1_spec b l n (i + 1) (by omega)
    rw [List.drop_eq_getElem_cons hi, F55v1_l1, rdI_at hi]
    simp only [Option.bind_some, F59]
    by_cases h1 : l[i].Key = b
    · have e : fi b (l[i] :: l.drop (i + 1)) = 0 := by rw [fi, if_pos h1]
      rw [if_pos h1, e, if_pos (by simp only [List.length_cons]; omega)]; rfl
    · have e : fi b (l[i] :: l.drop (i + 1)) = fi b (l.drop (i + 1)) + 1 := by rw [fi, if_neg h1]
      rw [if_neg h1, e, ih, List.length_cons]
      by_cases h2 : fi b (l.drop (i + 1)) < (l.drop (i + 1)).length
      · rw [if_pos h2, if_pos (by omega)]; congr 3; omega
      · rw [if_neg h2, if_neg (by omega)]
theorem F55v1_spec (l : List W) (b : ByteArray) (hb : l.length ≤ 1000000) : F55v1 l b = some (if fi b l < l.length then (fi b l : Int) else -1) := by
  have := F55v1_l1_spec b l l.length 0 (by omega)
  rw [List.drop_zero] at this
  unfold F55v1
  rw [ck_t ⟨Nat.zero_le _, by omega⟩, Option.bind_some, this, Option.bind_some]
  by_cases h : fi b l < l.length
  · rw [if_pos h, if_pos h]; simp
  · rw [if_neg h, if_neg h]
theorem F55v2_l1_spec (b : ByteArray) : ∀ (l : List W) (i : Nat), F55v2_l1 b l i = some (if fi b l < l.length then .inl ((i + fi b l : Nat) : Int) else .inr ())
  | [], i => rfl
  | y :: l, i => by
    have ih := F55v2_l1_spec b l (i + 1)
    rw [F55v2_l1]
    simp only [Option.bind_some, F56]
    by_cases h1 : y.Key = b
    · have e : fi b (y :: l) = 0 := by rw [fi, if_pos h1]
      rw [if_pos h1, e, if_pos (by simp)]; rfl
    · have e : fi b (y :: l) = fi b l + 1 := by rw [fi, if_neg h1]
      rw [if_neg h1, e, ih, List.length_cons]
      by_cases h2 : fi b l < l.length
      · rw [if_pos h2, if_pos (by omega)]; congr 3; omega
      · rw [if_neg h2, if_neg (by omega)]
def look (k : ByteArray) (l : List W) : Int := match l[fi k l]? with | some y => y.At | none => 0
theorem F39_spec (l : List W) (k : ByteArray) (hb : l.length ≤ 1000000) : F39 l k = some (look k l) := by
  unfold F39 F55v2
  rw [ck_t ⟨Nat.zero_le _, by omega⟩, Option.bind_some, F55v2_l1_spec, Option.bind_some]
  unfold look
  by_cases h : fi k l < l.length
  · rw [if_pos h]
    simp only [Option.bind_some, Nat.zero_add]
    rw [if_neg (by omega), rdI_nat, List.getElem?_eq_getElem h]; rfl
  · rw [if_neg h, List.getElem?_eq_none (by omega)]; rfl

theorem F58_l3_spec (b : ByteArray) (l : List W) (hb : l.length ≤ 1000000) : ∀ (n k : Nat) (c : List W) (w r : Nat), l.length = r + n → n < k → w ≤ r → c.length = l.length → c.drop r = l.drop r → c.take w = (l.take r).filter (fun x => decide (x.Key ≠ b)) →
    ∃ c' w', F58_l3 b k c (w : Int) (r : Int) = some (c', ((w' : Nat) : Int)) ∧ c'.length = l.length ∧ w' ≤ l.length ∧ c'.take w' = flt b l
  | _, 0, c, w, r, h, hk, _, _, _, _ => by omega
  | 0, k + 1, c, w, r, h, hk, hw, hc, hd, ht => by
    rw [F58_l3, if_neg (by omega)]
    exact ⟨c, w, rfl, hc, by omega, by rw [ht, List.take_of_length_le (by omega)]; rfl⟩
  | n + 1, k + 1, c, w, r, h, hk, hw, hc, hd, ht => by
    have hr : r < l.length := by omega
    have hrc : r < c.length := by omega
    have hcr : c[r] = l[r] := by
      have h1 := congrArg (·[0]?) hd
      simp only [List.getElem?_drop, Nat.add_zero] at h1
      rw [List.getElem?_eq_getElem hrc, List.getElem?_eq_getElem hr] at h1
      exact Option.some.inj h1
    have hd1 : c.drop (r + 1) = l.drop (r + 1) := by
      have := congrArg (List.drop 1) hd
      simpa [List.drop_drop, Nat.add_comm] using this
    have e1 : IntKind.i64.wrap ((r : Int) + 1) = ((r + 1 : Nat) : Int) := by rw [wrapI (by omega) (by omega)]; omega
    have e2 : IntKind.i64.wrap ((w : Int) + 1) = ((w + 1 : Nat) : Int) := by rw [wrapI (by omega) (by omega)]; omega
    have et : l.take (r + 1) = l.take r ++ [l[r]] := by rw [List.take_succ_eq_append_getElem hr]
    rw [F58_l3, if_pos (by omega), rdI_at hrc, hcr]
    simp only [Option.bind_some, F59]
    by_cases hx : l[r].Key = b
    · rw [if_neg (by simpa using hx)]
      simp only [Option.bind_some, e1]
      refine F58_l3_spec b l hb n k c w (r + 1) (by omega) (by omega) (by omega) hc hd1 ?_
      rw [et, List.filter_append, List.filter_cons_of_neg (by simpa using hx), ht]; simp
    · rw [if_pos hx, rdI_at (by omega : w < c.length)]
      simp only [Option.bind_some, e1, e2, Int.toNat_natCast]
      refine F58_l3_spec b l hb n k (c.set w l[r]) (w + 1) (r + 1) (by omega) (by omega) (by omega) (by simpa using hc) ?_ ?_
      · rw [List.drop_set_of_lt (by omega), hd1]
      · rw [et, List.filter_append, List.filter_cons_of_pos (by simpa using hx), ← ht, List.take_set]
        have hwl : w < (c.take (w + 1)).length := by simp; omega
        rw [List.set_eq_take_append_cons_drop, if_pos hwl, List.take_take, Nat.min_eq_left (by omega)]
        rw [List.drop_of_length_le (by simp; omega)]; rfl

theorem F58_spec (l : List W) (b : ByteArray) (hb : l.length ≤ 1000000) : F58 l b = some (flt b l) := by
  unfold F58
  rw [F55v1_spec l b hb, Option.bind_some]
  by_cases h : fi b l < l.length
  · rw [if_pos h, if_neg (by omega)]
    obtain ⟨y, h1, h2⟩ := fi_at b h
    have e1 : IntKind.i64.wrap ((fi b l : Int) + 1) = ((fi b l + 1 : Nat) : Int) := by rw [wrapI (by omega) (by omega)]; omega
    have et : l.take (fi b l + 1) = l.take (fi b l) ++ [y] := by
      rw [List.take_add_one, h1]; rfl
    obtain ⟨c, w, g1, g2, g3, g4⟩ := F58_l3_spec b l hb (l.length - (fi b l + 1)) 1099511627776 l (fi b l) (fi b l + 1) (by omega) (by omega) (by omega) rfl rfl
      (by rw [et, List.filter_append, fi_take, List.filter_cons_of_neg (by simpa using h2)]; simp)
    rw [e1, g1]
    simp only [Option.bind_some]
    rw [slI_t (by omega : w ≤ c.length) (Nat.le_refl _)]
    simp only [Option.bind_some, Int.toNat_natCast]
    have e0 : (0 : Int) = ((0 : Nat) : Int) := rfl
    have hcl : (clrL c w ((c.drop w).take (c.length - w)).length (⟨(⟨#[]⟩ : ByteArray), 0⟩ : WorkItem)).length = c.length := by
      simp only [clrL, List.length_append, List.length_take, List.length_replicate, List.length_drop]; omega
    rw [show slI (clrL c w ((c.drop w).take (c.length - w)).length (⟨(⟨#[]⟩ : ByteArray), 0⟩ : WorkItem)) 0 (w : Int) = _ from slI_t (l := 0) (h := w) (by omega) (by rw [hcl]; omega)]
    simp only [Option.bind_some, List.drop_zero, Nat.sub_zero]
    congr 1
    rw [← g4, clrL, List.append_assoc, List.take_append_of_le_length (by simp; omega), List.take_take, Nat.min_self]
  · rw [if_neg h, if_pos rfl, flt_none (fi_none b h)]
theorem F41_spec (l : List W) (b : ByteArray) (hb : l.length ≤ 1000000) : F41 l b = some (flt b l) := by
  unfold F41
  rw [show cloneI l = some l from if_pos (by omega), Option.bind_some, F58_spec l b hb]; rfl

/-! Whole queues. -/
abbrev Q := SchedQueue
structure Sm (q : Q) (n : Nat) : Prop where
  w : q.Waiting.length ≤ n
  a : q.Active.length ≤ n
  s : q.Stuck.length ≤ n
  b : q.Backoff.length ≤ n
  r : q.Retries.length ≤ n
def tup (q : Q) : (List W) × (List W) × (List W) × (List W) × (List W) := (q.Waiting, q.Active, q.Stuck, q.Backoff, q.Retries)
theorem F34_spec {q : Q} (h : Sm q 1000000) : F34 q = some (tup q) := by
  obtain ⟨h1, h2, h3, h4, h5⟩ := h
  unfold F34
  rw [show cloneI q.Active = some q.Active from if_pos (by omega), show cloneI q.Stuck = some q.Stuck from if_pos (by omega), show cloneI q.Backoff = some q.Backoff from if_pos (by omega), show cloneI q.Waiting = some q.Waiting from if_pos (by omega), show cloneI q.Retries = some q.Retries from if_pos (by omega)]
  rfl
def outQ (k : ByteArray) (q : Q) : Q := ⟨flt k q.Waiting, flt k q.Active, flt k q.Stuck, flt k q.Backoff, q.Retries, q.Cycle⟩
theorem F35_spec {q : Q} (k : ByteArray) (h : Sm q 1000000) : F35 q k = some (tup (outQ k q)) := by
  unfold F35
  rw [F34_spec h]
  obtain ⟨h1, h2, h3, h4, h5⟩ := h
  simp only [Option.bind_some, tup]
  rw [F41_spec _ _ h2, F41_spec _ _ h3, F41_spec _ _ h4, F41_spec _ _ h1]
  rfl

/-! Insertion. -/
def insW (le : W → W → Bool) (x : W) : List W → List W
  | [] => [x]
  | y :: l => if le y x = true then y :: insW le x l else x :: y :: l
def pl (le : W → W → Bool) (x : W) : List W → Nat
  | [] => 0
  | y :: l => if le y x = true then pl le x l + 1 else 0
theorem pl_le (le : W → W → Bool) (x : W) : ∀ l, pl le x l ≤ l.length
  | [] => Nat.le_refl _
  | y :: l => by have := pl_le le x l; unfold pl; split <;> simp <;> omega
theorem insW_pl (le : W → W → Bool) (x : W) : ∀ l, insW le x l = l.take (pl le x l) ++ x :: l.drop (pl le x l)
  | [] => rfl
  | y :: l => by
    unfold insW pl
    split
    · rw [insW_pl le x l]; simp
    · simp
theorem insW_len (le : W → W → Bool) (x : W) (l : List W) : (insW le x l).length = l.length + 1 := by
  rw [insW_pl]; have := pl_le le x l; simp; omega
theorem insW_mem (le : W → W → Bool) (x z : W) : ∀ l, z ∈ insW le x l ↔ z = x ∨ z ∈ l
  | [] => by simp [insW]
  | y :: l => by
    have := insW_mem le x z l
    unfold insW
    split
    · simp only [List.mem_cons, this]; exact ⟨fun h => h.elim (fun h => .inr (.inl h)) fun h => h.elim .inl fun h => .inr (.inr h), fun h => h.elim (fun h => .inr (.inl h)) fun h => h.elim .inl fun h => .inr (.inr h)⟩
    · simp

/-- By falling priority; by key; by time and key. -/
def leP (y x : W) : Bool := decide (x.At ≤ y.At)
def leK (y x : W) : Bool := decide (¬ lt x.Key y.Key)
def leT (y x : W) : Bool := decide (y.At < x.At ∨ y.At = x.At ∧ ¬ lt x.Key y.Key)
theorem F38_spec (a b : Int) : F38 a b = some (if a < b then -1 else if b < a then 1 else 0) := by
  unfold F38 F54
  simp only [Option.bind_some, not_true_eq_false, if_false]
  split
  · rfl
  · split <;> rfl
theorem F37_le (y x : W) : ((F37 y x).bind fun t5 => some (decide (t5 ≤ 0))) = some (leP y x) := by
  unfold F37 leP
  rw [F38_spec]
  simp only [Option.bind_some]
  congr 1
  by_cases h : x.At < y.At
  · rw [if_pos h]; simp; omega
  · rw [if_neg h]
    by_cases h2 : y.At < x.At
    · rw [if_pos h2]; simp; omega
    · rw [if_neg h2]; simp; omega
theorem F42_spec (y x : W) : F42 y x = some (scmp y.Key x.Key) := rfl
theorem scmp_le (a b : ByteArray) : (scmp a b ≤ 0) ↔ ¬ lt b a := by
  unfold scmp
  by_cases h : lt a b
  · rw [if_pos h]; simp [lt_asymm h]
  · rw [if_neg h]
    by_cases h2 : a = b
    · rw [if_pos h2, h2]; simp [lt_irrefl]
    · rw [if_neg h2]; simp [lt_of_not h h2]
theorem F42_le (y x : W) : ((F42 y x).bind fun t5 => some (decide (t5 ≤ 0))) = some (leK y x) := by
  rw [F42_spec, Option.bind_some, leK]
  congr 1
  exact decide_eq_decide.2 (scmp_le _ _)
theorem F43_le (y x : W) : ((F43 y x).bind fun t5 => some (decide (t5 ≤ 0))) = some (leT y x) := by
  unfold F43
  rw [F38_spec, F42_spec]
  simp only [Option.bind_some, F61]
  rw [ck_t ⟨Nat.zero_le _, by simp⟩, Option.bind_some]
  simp only [F61_l1]
  unfold leT
  by_cases h : y.At < x.At
  · rw [if_pos h]; simp [h]
  · rw [if_neg h]
    by_cases h2 : x.At < y.At
    · rw [if_pos h2]; simp; omega
    · rw [if_neg h2]
      have e : y.At = x.At := by omega
      have := scmp_le y.Key x.Key
      by_cases h3 : scmp y.Key x.Key = 0
      · rw [h3] at this ⊢; simp [e] at this ⊢; exact this
      · simp [h3, e]; rw [show decide (scmp y.Key x.Key ≤ 0) = decide (¬ lt x.Key y.Key) from decide_eq_decide.2 this]; simp

theorem F36_l1_spec (x : W) (l : List W) (hb : l.length ≤ 1000000) : ∀ (n k i : Nat), l.length = i + n → n < k → F36_l1 l x k (i : Int) = some (((i + pl leP x (l.drop i) : Nat)) : Int)
  | _, 0, i, _, h => by omega
  | 0, k + 1, i, h, hk => by
    rw [F36_l1, if_neg (by omega), List.drop_of_length_le (by omega)]; rfl
  | n + 1, k + 1, i, h, hk => by
    have hi : i < l.length := by omega
    have ih := F36_l1_spec x l hb n k (i + 1) (by omega) (by omega)
    have e1 : IntKind.i64.wrap ((i : Int) + 1) = ((i + 1 : Nat) : Int) := by rw [wrapI (by omega) (by omega)]; omega
    rw [F36_l1, if_pos (by omega), rdI_at hi, Option.bind_some, F37_le, Option.bind_some, List.drop_eq_getElem_cons hi]
    unfold pl
    by_cases h1 : leP l[i] x = true
    · rw [if_pos h1, if_pos h1, e1, ih]; congr 2; omega
    · rw [if_neg h1, if_neg h1]; rfl
theorem F36_spec (x : W) (l : List W) (hb : l.length ≤ 1000000) : F36 l x = some (insW leP x l) := by
  have := F36_l1_spec x l hb l.length 1099511627776 0 (by omega) (by omega)
  rw [List.drop_zero, Nat.zero_add] at this
  unfold F36
  rw [show ((0 : Nat) : Int) = 0 from rfl] at this
  rw [this, Option.bind_some]
  have hp := pl_le leP x l
  rw [show insI l ((pl leP x l : Nat) : Int) x = some (l.take (pl leP x l) ++ x :: l.drop (pl leP x l)) from by unfold insI; rw [if_pos ⟨by omega, by omega, by omega⟩]; simp only [Int.toNat_natCast], ← insW_pl]; rfl

theorem F36v1_l1_spec (x : W) (l : List W) (hb : l.length ≤ 1000000) : ∀ (n k i : Nat), l.length = i + n → n < k → F36v1_l1 l x k (i : Int) = some (((i + pl leK x (l.drop i) : Nat)) : Int)
  | _, 0, i, _, h => by omega
  | 0, k + 1, i, h, hk => by
    rw [F36v1_l1, if_neg (by omega), List.drop_of_length_le (by omega)]; rfl
  | n + 1, k + 1, i, h, hk => by
    have hi : i < l.length := by omega
    have ih := F36v1_l1_spec x l hb n k (i + 1) (by omega) (by omega)
    have e1 : IntKind.i64.wrap ((i : Int) + 1) = ((i + 1 : Nat) : Int) := by rw [wrapI (by omega) (by omega)]; omega
    rw [F36v1_l1, if_pos (by omega), rdI_at hi, Option.bind_some, F42_le, Option.bind_some, List.drop_eq_getElem_cons hi]
    unfold pl
    by_cases h1 : leK l[i] x = true
    · rw [if_pos h1, if_pos h1, e1, ih]; congr 2; omega
    · rw [if_neg h1, if_neg h1]; rfl
theorem F36v1_spec (x : W) (l : List W) (hb : l.length ≤ 1000000) : F36v1 l x = some (insW leK x l) := by
  have := F36v1_l1_spec x l hb l.length 1099511627776 0 (by omega) (by omega)
  rw [List.drop_zero, Nat.zero_add] at this
  unfold F36v1
  rw [show ((0 : Nat) : Int) = 0 from rfl] at this
  rw [this, Option.bind_some]
  have hp := pl_le leK x l
  rw [show insI l ((pl leK x l : Nat) : Int) x = some (l.take (pl leK x l) ++ x :: l.drop (pl leK x l)) from by unfold insI; rw [if_pos ⟨by omega, by omega, by omega⟩]; simp only [Int.toNat_natCast], ← insW_pl]; rfl

theorem F36v2_l1_spec (x : W) (l : List W) (hb : l.length ≤ 1000000) : ∀ (n k i : Nat), l.length = i + n → n < k → F36v2_l1 l x k (i : Int) = some (((i + pl leT x (l.drop i) : Nat)) : Int)
  | _, 0, i, _, h => by omega
  | 0, k + 1, i, h, hk => by
    rw [F36v2_l1, if_neg (by omega), List.drop_of_length_le (by omega)]; rfl
  | n + 1, k + 1, i, h, hk => by
    have hi : i < l.length := by omega
    have ih := F36v2_l1_spec x l hb n k (i + 1) (by omega) (by omega)
    have e1 : IntKind.i64.wrap ((i : Int) + 1) = ((i + 1 : Nat) : Int) := by rw [wrapI (by omega) (by omega)]; omega
    rw [F36v2_l1, if_pos (by omega), rdI_at hi, Option.bind_some, F43_le, Option.bind_some, List.drop_eq_getElem_cons hi]
    unfold pl
    by_cases h1 : leT l[i] x = true
    · rw [if_pos h1, if_pos h1, e1, ih]; congr 2; omega
    · rw [if_neg h1, if_neg h1]; rfl
theorem F36v2_spec (x : W) (l : List W) (hb : l.length ≤ 1000000) : F36v2 l x = some (insW leT x l) := by
  have := F36v2_l1_spec x l hb l.length 1099511627776 0 (by omega) (by omega)
  rw [List.drop_zero, Nat.zero_add] at this
  unfold F36v2
  rw [show ((0 : Nat) : Int) = 0 from rfl] at this
  rw [this, Option.bind_some]
  have hp := pl_le leT x l
  rw [show insI l ((pl leT x l : Nat) : Int) x = some (l.take (pl leT x l) ++ x :: l.drop (pl leT x l)) from by unfold insI; rw [if_pos ⟨by omega, by omega, by omega⟩]; simp only [Int.toNat_natCast], ← insW_pl]; rfl

/-! The calls. -/
def addQ (k : ByteArray) (p : Int) (q : Q) : Q :=
  if (⟨k, p⟩ : W) ∈ q.Active then q else ⟨flt k q.Waiting, insW leP ⟨k, p⟩ (flt k q.Active), flt k q.Stuck, flt k q.Backoff, q.Retries, q.Cycle⟩
theorem F51_l1_spec (x : W) : ∀ (l : List W) (i : Nat), F51_l1 x l i = some (.inr ()) ∧ x ∉ l ∨ (∃ k : Nat, F51_l1 x l i = some (.inl (k : Int))) ∧ x ∈ l
  | [], i => .inl ⟨rfl, by simp⟩
  | y :: l, i => by
    rw [F51_l1]
    by_cases h : x.Key = y.Key ∧ x.At = y.At
    · rw [if_pos h]
      have : x = y := by cases x; cases y; simp_all
      exact .inr ⟨⟨i, rfl⟩, by simp [this]⟩
    · rw [if_neg h]
      have : x ≠ y := fun e => h ⟨by rw [e], by rw [e]⟩
      rcases F51_l1_spec x l (i + 1) with ⟨h1, h2⟩ | ⟨h1, h2⟩
      · exact .inl ⟨h1, by simp [this, h2]⟩
      · exact .inr ⟨h1, by simp [h2]⟩
theorem F33_spec (l : List W) (x : W) (hb : l.length ≤ 1000000) : F33 l x = some (decide (x ∈ l)) := by
  unfold F33 F51
  rw [ck_t ⟨Nat.zero_le _, by omega⟩]
  simp only [Option.bind_some]
  rcases F51_l1_spec x l 0 with ⟨h1, h2⟩ | ⟨⟨k, h1⟩, h2⟩
  · rw [h1]; simp [h2]
  · rw [h1]; simp [h2]
theorem F15_spec {q : Q} (k : ByteArray) (p : Int) (h : Sm q 1000000) : F15 q k p = some (tup (addQ k p q)) := by
  unfold F15
  rw [F33_spec _ _ h.a, Option.bind_some]
  unfold addQ
  by_cases hm : (⟨k, p⟩ : W) ∈ q.Active
  · rw [if_pos (by simpa using hm), if_pos hm, F34_spec h]; rfl
  · rw [if_neg (by simpa using hm), if_neg hm, F35_spec k h]
    simp only [Option.bind_some, tup, outQ]
    rw [F36_spec _ _ (by have := flt_len k q.Active; have := h.a; omega)]; rfl
def popQ (q : Q) : Q := match q.Active with
  | [] => q
  | _ :: l => ⟨q.Waiting, l, q.Stuck, q.Backoff, q.Retries, q.Cycle + 1⟩
def popK (q : Q) : ByteArray := match q.Active with | [] => ⟨#[]⟩ | y :: _ => y.Key
def popB (q : Q) : Bool := match q.Active with | [] => false | _ :: _ => true
def tup8 (q : Q) (k : ByteArray) (b : Bool) : (List W) × (List W) × (List W) × (List W) × (List W) × Int × ByteArray × Bool := (q.Waiting, q.Active, q.Stuck, q.Backoff, q.Retries, q.Cycle, k, b)
theorem F17_spec {q : Q} (h : Sm q 1000000) (hc : 0 ≤ q.Cycle ∧ q.Cycle ≤ 1000000) : F17 q = some (tup8 (popQ q) (popK q) (popB q)) := by
  unfold F17
  rw [F34_spec h]
  simp only [Option.bind_some, tup, popQ, popK, popB]
  have ha := h.a
  cases hq : q.Active with
  | nil =>
    simp only [List.length_nil]
    simp [tup8, hq]
  | cons y l =>
    rw [hq] at ha
    simp only [List.length_cons] at ha ⊢
    rw [if_neg (by omega)]
    have e0 : rdI (y :: l) 0 = some y := rfl
    have e1 : slI (y :: l) 1 ((l.length + 1 : Nat) : Int) = some l := by
      have := slI_t (xs := y :: l) (l := 1) (h := l.length + 1) (by omega) (by simp)
      simpa using this
    rw [e0, e1]
    simp only [Option.bind_some]
    rw [wrapI (by omega) (by omega)]; rfl
def stuckQ (k : ByteArray) (p : Int) (q : Q) : Q := ⟨flt k q.Waiting, flt k q.Active, flt k q.Stuck ++ [⟨k, p⟩], flt k q.Backoff, q.Retries, q.Cycle⟩
theorem F23_spec {q : Q} (k : ByteArray) (p : Int) (h : Sm q 1000000) : F23 q k p = some (tup (stuckQ k p q)) := by
  unfold F23
  rw [F35_spec k h]
  simp only [Option.bind_some, tup, outQ]
  rw [apI_t (by have := flt_len k q.Stuck; have := h.s; simp only [List.length_cons, List.length_nil]; omega)]; rfl
def remQ (k : ByteArray) (q : Q) : Q := ⟨flt k q.Waiting, flt k q.Active, flt k q.Stuck, flt k q.Backoff, flt k q.Retries, q.Cycle⟩
theorem F24_spec {q : Q} (k : ByteArray) (h : Sm q 1000000) : F24 q k = some (tup (remQ k q)) := by
  unfold F24
  rw [F35_spec k h]
  simp only [Option.bind_some, tup, outQ]
  rw [F41_spec _ _ h.r]; rfl
end Go.Proofs.Ytdpbdbclninjaaa
