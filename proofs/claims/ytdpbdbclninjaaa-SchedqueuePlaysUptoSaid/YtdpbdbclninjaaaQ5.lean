/- The plain laws, part 5. -/
import Derived.Test.YtdpbdbclninjaaaQ4
set_option linter.unusedVariables false
set_option linter.unusedSimpArgs false
namespace Go.Proofs.Ytdpbdbclninjaaa
open Go Go.Fw
set_option maxRecDepth 100000

/-! The reference. -/
theorem F50_l1_spec (k : ByteArray) : ∀ (l : List W) (i : Nat) (out : List W), out.length + l.length ≤ 1000000 → F50_l1 k l i out = some (out ++ flt k l)
  | [], i, out, _ => by simp [F50_l1, flt]
  | y :: l, i, out, h => by
    simp only [List.length_cons] at h
    rw [F50_l1]
    by_cases hy : y.Key = k
    · have e : flt k (y :: l) = flt k l := List.filter_cons_of_neg (by simpa using hy)
      rw [if_neg (by simpa using hy), e]
      exact F50_l1_spec k l (i + 1) out (by omega)
    · have e : flt k (y :: l) = y :: flt k l := List.filter_cons_of_pos (by simpa using hy)
      rw [if_pos hy, apI_t (by simp only [List.length_cons, List.length_nil]; omega), e]
      simp only [Option.bind_some]
      rw [F50_l1_spec k l (i + 1) _ (by simp only [List.length_append, List.length_cons, List.length_nil]; omega)]; simp
theorem F50_spec (l : List W) (k : ByteArray) (h : l.length ≤ 1000000) : F50 l k = some (flt k l) := by
  unfold F50
  rw [ck_t ⟨Nat.zero_le _, by omega⟩, Option.bind_some, F50_l1_spec k l 0 [] (by simp; omega)]; simp
theorem F45_spec {q : Q} (k : ByteArray) (h : Sm q 1000000) : F45 q k = some (flt k q.Waiting, flt k q.Active, flt k q.Stuck, flt k q.Backoff) := by
  obtain ⟨h1, h2, h3, h4, h5⟩ := h
  unfold F45
  rw [F50_spec _ _ h2, F50_spec _ _ h3, F50_spec _ _ h4, F50_spec _ _ h1]; rfl
theorem F44_l1_spec (k : ByteArray) : ∀ (l : List W) (i : Nat), F44_l1 k l i = some (if fi k l < l.length then .inl ((i + fi k l : Nat) : Int) else .inr ())
  | [], i => rfl
  | y :: l, i => by
    have ih := F44_l1_spec k l (i + 1)
    rw [F44_l1]
    by_cases h1 : y.Key = k
    · have e : fi k (y :: l) = 0 := by rw [fi, if_pos h1]
      rw [if_pos h1, e, if_pos (by simp)]; rfl
    · have e : fi k (y :: l) = fi k l + 1 := by rw [fi, if_neg h1]
      rw [if_neg h1, e, ih, List.length_cons]
      by_cases h2 : fi k l < l.length
      · rw [if_pos h2, if_pos (by omega)]; congr 3; omega
      · rw [if_neg h2, if_neg (by omega)]
theorem F44_spec (l : List W) (k : ByteArray) (h : l.length ≤ 1000000) : F44 l k = some (if fi k l < l.length then (fi k l : Int) else -1) := by
  unfold F44
  rw [ck_t ⟨Nat.zero_le _, by omega⟩, Option.bind_some, F44_l1_spec, Option.bind_some]
  by_cases h1 : fi k l < l.length
  · rw [if_pos h1, if_pos h1]; simp
  · rw [if_neg h1, if_neg h1]
theorem F46_spec (l : List W) (i : Nat) (x : W) (hi : i ≤ l.length) (h : l.length ≤ 1000000) : F46 l (i : Int) x = some (l.take i ++ x :: l.drop i) := by
  unfold F46
  have e1 : slI l 0 (i : Int) = some (l.take i) := by
    have := slI_t (xs := l) (l := 0) (h := i) (by omega) hi; simpa using this
  have e2 : slI l (i : Int) (l.length : Int) = some (l.drop i) := by
    have := slI_t (xs := l) (l := i) (h := l.length) hi (Nat.le_refl _)
    rw [this, List.take_of_length_le (by simp)]
  rw [e1, Option.bind_some, apI_t (by simp; omega), Option.bind_some, apI_t (by simp; omega), Option.bind_some, e2, Option.bind_some, apI_t (by simp; omega), Option.bind_some]
  simp
/-- The places agree where the orders do. -/
theorem pl_congr {le le' : W → W → Bool} {x : W} : ∀ {l : List W}, (∀ y ∈ l, le y x = le' y x) → pl le x l = pl le' x l
  | [], _ => rfl
  | y :: l, h => by
    unfold pl
    rw [h y (List.mem_cons_self ..), pl_congr fun z hz => h z (List.mem_cons_of_mem _ hz)]
def ltK (y x : W) : Bool := Op.bytesLess y.Key.toList x.Key.toList
theorem ltK_leK {y x : W} (h : y.Key ≠ x.Key) : ltK y x = leK y x := by
  unfold ltK leK
  rw [bl_lt]
  by_cases h1 : lt y.Key x.Key
  · simp [h1, lt_asymm h1]
  · simp [h1, lt_of_not h1 h]
def ltT (y x : W) : Bool := decide (y.At < x.At ∨ y.At = x.At ∧ lt y.Key x.Key)
theorem ltT_leT {y x : W} (h : y.Key ≠ x.Key) : ltT y x = leT y x := by
  unfold ltT leT
  by_cases h1 : lt y.Key x.Key
  · simp [h1, lt_asymm h1]
  · simp [h1, lt_of_not h1 h]
theorem F47_l2_spec (x : W) (l : List W) (hb : l.length ≤ 1000000) : ∀ (n k i : Nat), l.length = i + n → n < k → F47_l2 l x k (i : Int) = some (((i + pl ltK x (l.drop i) : Nat)) : Int)
  | _, 0, i, _, h => by omega
  | 0, k + 1, i, h, hk => by
    rw [F47_l2, if_neg (by omega), List.drop_of_length_le (by omega)]; rfl
  | n + 1, k + 1, i, h, hk => by
    have hi : i < l.length := by omega
    have ih := F47_l2_spec x l hb n k (i + 1) (by omega) (by omega)
    have e1 : IntKind.i64.wrap ((i : Int) + 1) = ((i + 1 : Nat) : Int) := by rw [wrapI (by omega) (by omega)]; omega
    rw [F47_l2, if_pos (by omega), rdI_at hi]
    simp only [Option.bind_some]
    rw [List.drop_eq_getElem_cons hi, pl]
    by_cases h1 : ltK l[i] x = true
    · have h1' : Op.bytesLess l[i].Key.toList x.Key.toList = true := h1
      rw [if_pos h1', if_pos h1, e1, ih]; congr 2; omega
    · have h1' : ¬ Op.bytesLess l[i].Key.toList x.Key.toList = true := h1
      rw [if_neg h1', if_neg h1]; rfl
theorem F47_spec (l : List W) (x : W) (hb : l.length ≤ 1000000) : F47 l x = some (insW leK x (flt x.Key l)) := by
  have hl := flt_len x.Key l
  have := F47_l2_spec x (flt x.Key l) (by omega) (flt x.Key l).length 1099511627776 0 (by omega) (by omega)
  rw [List.drop_zero, Nat.zero_add, pl_congr (fun y hy => ltK_leK (flt_ne _ _ y hy)), show ((0 : Nat) : Int) = 0 from rfl] at this
  unfold F47
  rw [F50_spec _ _ hb, Option.bind_some, this, Option.bind_some, F46_spec _ _ _ (pl_le ..) (by omega), ← insW_pl]; rfl
theorem F25_l7_spec (t : (List W) × (List W) × (List W) × (List W)) (k0 : ByteArray) (p : Int) (hb : t.2.1.length ≤ 1000000) : ∀ (n k i : Nat), t.2.1.length = i + n → n < k → F25_l7 t p k (i : Int) = some (((i + pl leP ⟨k0, p⟩ (t.2.1.drop i) : Nat)) : Int)
  | _, 0, i, _, h => by omega
  | 0, k + 1, i, h, hk => by
    rw [F25_l7, if_neg (by omega), List.drop_of_length_le (by omega)]; rfl
  | n + 1, k + 1, i, h, hk => by
    have hi : i < t.2.1.length := by omega
    have ih := F25_l7_spec t k0 p hb n k (i + 1) (by omega) (by omega)
    have e1 : IntKind.i64.wrap ((i : Int) + 1) = ((i + 1 : Nat) : Int) := by rw [wrapI (by omega) (by omega)]; omega
    rw [F25_l7, if_pos (by omega), rdI_at hi]
    simp only [Option.bind_some]
    rw [List.drop_eq_getElem_cons hi, pl]
    by_cases h1 : leP t.2.1[i] ⟨k0, p⟩ = true
    · have h1' : decide (p ≤ t.2.1[i].At) = true := h1
      rw [if_pos h1', if_pos h1, e1, ih]; congr 2; omega
    · have h1' : ¬ decide (p ≤ t.2.1[i].At) = true := h1
      rw [if_neg h1', if_neg h1]; rfl
def tup4 (q : Q) : (List W) × (List W) × (List W) × (List W) := (q.Waiting, q.Active, q.Stuck, q.Backoff)
theorem uniq {k : ByteArray} : ∀ {l : List W}, ct k l ≤ 1 → ∀ x ∈ l, x.Key = k → l[fi k l]? = some x
  | [], _, x, hx, _ => by cases hx
  | y :: l, h, x, hx, hk => by
    rw [ct] at h
    unfold fi
    by_cases hy : y.Key = k
    · rw [if_pos hy] at h ⊢
      rcases List.mem_cons.1 hx with rfl | hx
      · rfl
      · have := ct_mem hx; rw [hk] at this; omega
    · rw [if_neg hy] at h ⊢
      rw [List.getElem?_cons_succ]
      rcases List.mem_cons.1 hx with rfl | hx
      · exact (hy hk).elim
      · exact uniq (by omega) x hx hk
theorem F25_spec {q : Q} {n : Nat} (hn : n ≤ 1000) (h : Inv q n) (k : ByteArray) (p : Int) : F25 q k p = some (tup4 (addQ k p q)) := by
  have hs := h.sm hn
  have hone : ct k q.Active ≤ 1 := by have := h.one k; unfold cq at this; omega
  unfold F25
  rw [F44_spec _ _ hs.a, Option.bind_some]
  have key : (if 0 ≤ (if fi k q.Active < q.Active.length then (fi k q.Active : Int) else -1) then (rdI q.Active (if fi k q.Active < q.Active.length then (fi k q.Active : Int) else -1)).bind fun y4 => some (decide (y4.At = p)) else some false) = some (decide ((⟨k, p⟩ : W) ∈ q.Active)) := by
    by_cases hf : fi k q.Active < q.Active.length
    · obtain ⟨y, h1, h2⟩ := fi_at k hf
      rw [if_pos hf, if_pos (by omega), rdI_nat, h1, Option.bind_some]
      congr 1
      rw [decide_eq_decide]
      constructor
      · intro e
        have : y = ⟨k, p⟩ := by cases y; simp_all
        rw [← this]; exact List.mem_of_getElem? h1
      · intro hm
        have := uniq hone _ hm rfl
        rw [h1] at this; cases this; rfl
    · rw [if_neg hf, if_neg (by omega), decide_eq_false]
      intro hm; exact fi_none k hf _ hm rfl
  rw [key]
  simp only [Option.bind_some, decide_eq_true_eq]
  unfold addQ
  by_cases hm : (⟨k, p⟩ : W) ∈ q.Active
  · rw [if_pos hm, if_pos hm]; rfl
  · rw [if_neg hm, if_neg hm, F45_spec k hs, Option.bind_some]
    have hl := flt_len k q.Active
    have ha := hs.a
    have := F25_l7_spec (flt k q.Waiting, flt k q.Active, flt k q.Stuck, flt k q.Backoff) k p (by show (flt k q.Active).length ≤ _; omega) (flt k q.Active).length 1099511627776 0 (by simp) (by omega)
    rw [show ((0 : Nat) : Int) = 0 from rfl] at this
    rw [this]
    simp only [Option.bind_some, List.drop_zero, Nat.zero_add]
    rw [F46_spec _ _ _ (pl_le ..) (by omega), ← insW_pl]; rfl
theorem F29_l1_spec {n : Nat} (hn : n ≤ 1000) : ∀ (xs : List W) (i : Nat) (q : Q), Inv q n → (∀ x ∈ xs, cq x.Key q = 1) → F29_l1 xs i q = some (wk xs q)
  | [], i, q, h, _ => rfl
  | x :: xs, i, q, h, hx => by
    have h1 := inv_add h x.Key x.At (Nat.le_refl n) (by rw [hx x (List.mem_cons_self ..)]; omega)
    have h2 : ∀ k, cq k (addQ x.Key x.At q) = cq k q := fun k => by
      rw [cq_add h.one]; split
      · rename_i e; rw [e, hx x (List.mem_cons_self ..)]
      · rfl
    have g1 := F29_l1_spec hn xs (i + 1) (addQ x.Key x.At q) h1 (fun y hy => by rw [h2]; exact hx y (List.mem_cons_of_mem _ hy))
    rw [F29_l1]
    have e : (⟨q.Waiting, q.Active, q.Stuck, q.Backoff, q.Retries, q.Cycle⟩ : SchedQueue) = q := rfl
    have e2 : (⟨(addQ x.Key x.At q).Waiting, (addQ x.Key x.At q).Active, (addQ x.Key x.At q).Stuck, (addQ x.Key x.At q).Backoff, q.Retries, q.Cycle⟩ : SchedQueue) = addQ x.Key x.At q := by
      obtain ⟨_, r2, r3⟩ := add_rest x.Key x.At q
      rw [← r2, ← r3]
    rw [e, F25_spec hn h, Option.bind_some]
    show F29_l1 xs (i + 1) ⟨(addQ x.Key x.At q).Waiting, (addQ x.Key x.At q).Active, (addQ x.Key x.At q).Stuck, (addQ x.Key x.At q).Backoff, q.Retries, q.Cycle⟩ = _
    rw [e2, g1]; rfl
theorem F49_l4_spec (n : Int) (h2 : n ≤ 1000000) : ∀ (m k : Nat) (d : Int) (i : Nat), (n : Int) = i + m → m < k → 1 ≤ d → d ≤ 120 → F49_l4 60 n k d (i : Int) = some (dly m d)
  | _, 0, _, _, _, h, _, _ => by omega
  | 0, k + 1, d, i, hm, _, hd, hd2 => by
    rw [F49_l4, if_neg (by omega)]; rfl
  | m + 1, k + 1, d, i, hm, hk, hd, hd2 => by
    have e2 : IntKind.i64.wrap (2 * d) = d * 2 := by rw [wrapI (by omega) (by omega)]; omega
    have e3 : IntKind.i64.wrap ((i : Int) + 1) = ((i + 1 : Nat) : Int) := by rw [wrapI (by omega) (by omega)]; omega
    rw [F49_l4, if_pos (by omega), if_pos (by omega), e2, e3, dly]
    simp only [Option.bind_some, decide_eq_true_eq]
    by_cases hc : 60 ≤ d
    · rw [if_neg (by omega), if_pos hc]
    · rw [if_pos (by omega), if_neg hc]
      exact F49_l4_spec n h2 m k (d * 2) (i + 1) (by omega) (by omega) (by omega) (by omega)
theorem F49_spec (n : Int) (h1 : 1 ≤ n) (h2 : n ≤ 64) : F49 1 60 n = some (dl n) := by
  unfold F49 F62
  have := F49_l4_spec n (by omega) (n - 1).toNat 1099511627776 1 1 (by omega) (by omega) (by omega) (by omega)
  rw [show ((1 : Nat) : Int) = 1 from rfl] at this
  rw [if_neg (by omega), if_neg (by omega), if_neg (by omega), if_neg (by omega)]
  simp only [Option.bind_some]
  rw [if_neg (by omega), this, Option.bind_some]
  have e : (min (n - 1) 64).toNat = (n - 1).toNat := by omega
  unfold dl
  rw [e, ite_some]
theorem F48_spec (n : Int) : F48 n = some (cm n) := by
  unfold F48 cm
  by_cases h1 : n < 0
  · rw [if_pos h1, if_pos h1]; rfl
  · rw [if_neg h1, if_neg h1, ite_some]
end Go.Proofs.Ytdpbdbclninjaaa
