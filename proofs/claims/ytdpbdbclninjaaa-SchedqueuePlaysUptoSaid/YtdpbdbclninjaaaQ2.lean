/- The plain laws, part 2. -/
import Derived.Test.YtdpbdbclninjaaaQ
set_option linter.unusedVariables false
set_option linter.unusedSimpArgs false
namespace Go.Proofs.Ytdpbdbclninjaaa
open Go Go.Fw
set_option maxRecDepth 100000

/-! How often a key occurs. -/
def ct (k : ByteArray) : List W → Nat
  | [] => 0
  | y :: l => (if y.Key = k then 1 else 0) + ct k l
theorem ct_flt_self (k : ByteArray) : ∀ l, ct k (flt k l) = 0
  | [] => rfl
  | y :: l => by
    have := ct_flt_self k l
    unfold flt at this ⊢
    by_cases h : y.Key = k
    · rw [List.filter_cons_of_neg (by simpa using h)]; exact this
    · rw [List.filter_cons_of_pos (by simpa using h), ct, if_neg h, this]
theorem ct_flt_ne {k k' : ByteArray} (hk : k' ≠ k) : ∀ l, ct k' (flt k l) = ct k' l
  | [] => rfl
  | y :: l => by
    have := ct_flt_ne hk l
    unfold flt at this ⊢
    by_cases h : y.Key = k
    · rw [List.filter_cons_of_neg (by simpa using h), this, ct, if_neg (fun e => hk (by rw [← e, h]))]; omega
    · rw [List.filter_cons_of_pos (by simpa using h), ct, this, ct]
theorem ct_flt_len (k : ByteArray) : ∀ l, (flt k l).length + ct k l = l.length
  | [] => rfl
  | y :: l => by
    have := ct_flt_len k l
    unfold flt at this ⊢
    by_cases h : y.Key = k
    · rw [List.filter_cons_of_neg (by simpa using h), ct, if_pos h, List.length_cons]; omega
    · rw [List.filter_cons_of_pos (by simpa using h), ct, if_neg h, List.length_cons, List.length_cons]; omega
theorem ct_insW (le : W → W → Bool) (x : W) (k : ByteArray) : ∀ l, ct k (insW le x l) = (if x.Key = k then 1 else 0) + ct k l
  | [] => rfl
  | y :: l => by
    have := ct_insW le x k l
    unfold insW
    split
    · rw [ct, this, ct]; omega
    · rw [ct, ct]
theorem ct_append (k : ByteArray) : ∀ a b, ct k (a ++ b) = ct k a + ct k b
  | [], b => by simp [ct]
  | y :: a, b => by rw [List.cons_append, ct, ct_append k a b, ct]; omega
theorem ct_mem {x : W} : ∀ {l : List W}, x ∈ l → 1 ≤ ct x.Key l
  | [], h => by cases h
  | y :: l, h => by
    rcases List.mem_cons.1 h with rfl | h
    · rw [ct, if_pos rfl]; omega
    · have := ct_mem h; rw [ct]; omega
theorem flt_of_ct {k : ByteArray} {l : List W} (h : ct k l = 0) : flt k l = l := by
  refine flt_none fun y hy e => ?_
  have := ct_mem hy
  rw [e] at this; omega

def cq (k : ByteArray) (q : Q) : Nat := ct k q.Active + ct k q.Stuck + ct k q.Backoff
def totQ (q : Q) : Nat := q.Active.length + q.Stuck.length + q.Backoff.length
structure Inv (q : Q) (n : Nat) : Prop where
  one : ∀ k, cq k q ≤ 1
  tot : totQ q ≤ n
  w : q.Waiting.length ≤ n
  r : q.Retries.length ≤ n
  ra : ∀ x ∈ q.Retries, 0 ≤ x.At ∧ x.At ≤ n
  c : 0 ≤ q.Cycle ∧ q.Cycle ≤ n
theorem Inv.sm {q : Q} {n : Nat} (h : Inv q n) (hn : n ≤ 1000) : Sm q 1000000 := by
  obtain ⟨_, h2, h3, h4, _, _⟩ := h
  unfold totQ at h2
  exact ⟨by omega, by omega, by omega, by omega, by omega⟩
theorem Inv.mono {q : Q} {n m : Nat} (h : Inv q n) (hm : n ≤ m) : Inv q m := by
  obtain ⟨h1, h2, h3, h4, h5, h6⟩ := h
  exact ⟨h1, by omega, by omega, by omega, fun x hx => by have := h5 x hx; omega, by omega⟩

theorem cq_out (k k' : ByteArray) (q : Q) : cq k' (outQ k q) = if k' = k then 0 else cq k' q := by
  unfold cq outQ
  by_cases h : k' = k
  · subst h; rw [if_pos rfl, ct_flt_self, ct_flt_self, ct_flt_self]
  · rw [if_neg h, ct_flt_ne h, ct_flt_ne h, ct_flt_ne h]
theorem tot_out (k : ByteArray) (q : Q) : totQ (outQ k q) + cq k q = totQ q := by
  unfold totQ cq outQ
  have h1 := ct_flt_len k q.Active
  have h2 := ct_flt_len k q.Stuck
  have h3 := ct_flt_len k q.Backoff
  simp only; omega

theorem cq_add {q : Q} (h : ∀ k, cq k q ≤ 1) (k k' : ByteArray) (p : Int) : cq k' (addQ k p q) = if k' = k then 1 else cq k' q := by
  unfold addQ
  by_cases hm : (⟨k, p⟩ : W) ∈ q.Active
  · rw [if_pos hm]
    have h1 := ct_mem hm
    by_cases hk : k' = k
    · subst hk
      rw [if_pos rfl]
      have := h k'
      unfold cq at this ⊢
      have e : (⟨k', p⟩ : W).Key = k' := rfl
      rw [e] at h1; omega
    · rw [if_neg hk]
  · rw [if_neg hm]
    have := cq_out k k' q
    unfold cq outQ at this
    unfold cq
    simp only at this ⊢
    rw [ct_insW]
    by_cases hk : k' = k
    · rw [if_pos hk] at this ⊢; rw [if_pos hk.symm]; omega
    · rw [if_neg hk] at this ⊢; rw [if_neg (fun e => hk e.symm)]; omega
theorem tot_add {q : Q} (h : ∀ k, cq k q ≤ 1) (k : ByteArray) (p : Int) : totQ (addQ k p q) + cq k q ≤ totQ q + 1 := by
  unfold addQ
  by_cases hm : (⟨k, p⟩ : W) ∈ q.Active
  · rw [if_pos hm]; have := h k; omega
  · rw [if_neg hm]
    have := tot_out k q
    unfold totQ outQ at this
    unfold totQ
    simp only at this ⊢
    rw [insW_len]; omega
theorem add_rest (k : ByteArray) (p : Int) (q : Q) : (addQ k p q).Waiting.length ≤ q.Waiting.length ∧ (addQ k p q).Retries = q.Retries ∧ (addQ k p q).Cycle = q.Cycle := by
  unfold addQ
  by_cases hm : (⟨k, p⟩ : W) ∈ q.Active
  · rw [if_pos hm]; exact ⟨Nat.le_refl _, rfl, rfl⟩
  · rw [if_neg hm]; exact ⟨flt_len _ _, rfl, rfl⟩
theorem inv_add {q : Q} {n m : Nat} (h : Inv q n) (k : ByteArray) (p : Int) (hm : n ≤ m) (ht : n + 1 ≤ m + cq k q) : Inv (addQ k p q) m := by
  obtain ⟨r1, r2, r3⟩ := add_rest k p q
  refine ⟨fun k' => ?_, ?_, ?_, ?_, ?_, ?_⟩
  · rw [cq_add h.one]; split
    · exact Nat.le_refl _
    · exact h.one k'
  · have := tot_add h.one k p; have := h.tot; omega
  · have := h.w; omega
  · rw [r2]; have := h.r; omega
  · rw [r2]; intro x hx; have := h.ra x hx; omega
  · rw [r3]; have := h.c; omega

/-! Wake and Advance. -/
def wk : List W → Q → Q
  | [], q => q
  | x :: xs, q => wk xs (addQ x.Key x.At q)
theorem F22_l2_spec {n : Nat} (hn : n ≤ 1000) : ∀ (xs : List W) (i : Nat) (q : Q), Inv q n → (∀ x ∈ xs, cq x.Key q = 1) →
    F22_l2 xs i q.Waiting q.Active q.Stuck q.Backoff q.Retries q.Cycle = some (wk xs q) ∧ Inv (wk xs q) n ∧ ∀ k, cq k (wk xs q) = cq k q
  | [], i, q, h, _ => ⟨rfl, h, fun _ => rfl⟩
  | x :: xs, i, q, h, hx => by
    have h1 := inv_add h x.Key x.At (Nat.le_refl n) (by rw [hx x (List.mem_cons_self ..)]; omega)
    have h2 : ∀ k, cq k (addQ x.Key x.At q) = cq k q := fun k => by
      rw [cq_add h.one]; split
      · rename_i e; rw [e, hx x (List.mem_cons_self ..)]
      · rfl
    obtain ⟨g1, g2, g3⟩ := F22_l2_spec hn xs (i + 1) (addQ x.Key x.At q) h1 (fun y hy => by rw [h2]; exact hx y (List.mem_cons_of_mem _ hy))
    refine ⟨?_, g2, fun k => by rw [wk, g3, h2]⟩
    rw [F22_l2]
    have e : (⟨q.Waiting, q.Active, q.Stuck, q.Backoff, q.Retries, q.Cycle⟩ : SchedQueue) = q := rfl
    rw [e, F15_spec x.Key x.At (h.sm hn), Option.bind_some]
    have : q.Cycle = (addQ x.Key x.At q).Cycle := ((add_rest x.Key x.At q).2.2).symm
    rw [this]; exact g1
theorem one_of_mem {q : Q} (h : ∀ k, cq k q ≤ 1) {x : W} (hx : x ∈ q.Active ∨ x ∈ q.Stuck ∨ x ∈ q.Backoff) : cq x.Key q = 1 := by
  have h1 := h x.Key
  unfold cq at h1 ⊢
  rcases hx with hx | hx | hx <;> have := ct_mem hx <;> omega
theorem F22_spec {q : Q} {n : Nat} (hn : n ≤ 1000) (h : Inv q n) : F22 q = some (wk q.Stuck q) ∧ Inv (wk q.Stuck q) n ∧ ∀ k, cq k (wk q.Stuck q) = cq k q := by
  obtain ⟨g1, g2, g3⟩ := F22_l2_spec hn q.Stuck 0 q h (fun x hx => one_of_mem h.one (.inr (.inl hx)))
  refine ⟨?_, g2, g3⟩
  unfold F22
  rw [F34_spec (h.sm hn), Option.bind_some, ck_t ⟨Nat.zero_le _, by have := (h.sm hn).s; omega⟩, Option.bind_some]
  simp only [tup]
  rw [g1]; rfl
def adv (now : Int) : List W → Q → Q
  | [], q => q
  | x :: xs, q => adv now xs (if x.At ≤ now then addQ x.Key (look x.Key q.Waiting) q else q)
theorem F21_l2_spec {n : Nat} (hn : n ≤ 1000) (now : Int) : ∀ (xs : List W) (i : Nat) (q : Q), Inv q n → (∀ x ∈ xs, cq x.Key q = 1) →
    F21_l2 now xs i q.Waiting q.Active q.Stuck q.Backoff q.Retries q.Cycle = some (adv now xs q) ∧ Inv (adv now xs q) n ∧ ∀ k, cq k (adv now xs q) = cq k q
  | [], i, q, h, _ => ⟨rfl, h, fun _ => rfl⟩
  | x :: xs, i, q, h, hx => by
    have e : (⟨q.Waiting, q.Active, q.Stuck, q.Backoff, q.Retries, q.Cycle⟩ : SchedQueue) = q := rfl
    rw [F21_l2]
    by_cases hc : x.At ≤ now
    · have h1 := inv_add h x.Key (look x.Key q.Waiting) (Nat.le_refl n) (by rw [hx x (List.mem_cons_self ..)]; omega)
      have h2 : ∀ k, cq k (addQ x.Key (look x.Key q.Waiting) q) = cq k q := fun k => by
        rw [cq_add h.one]; split
        · rename_i e; rw [e, hx x (List.mem_cons_self ..)]
        · rfl
      obtain ⟨g1, g2, g3⟩ := F21_l2_spec hn now xs (i + 1) (addQ x.Key (look x.Key q.Waiting) q) h1 (fun y hy => by rw [h2]; exact hx y (List.mem_cons_of_mem _ hy))
      rw [adv, if_pos hc, if_pos hc, F39_spec _ _ (h.sm hn).w, Option.bind_some, e, F15_spec x.Key _ (h.sm hn)]
      refine ⟨?_, g2, fun k => by rw [g3, h2]⟩
      have : q.Cycle = (addQ x.Key (look x.Key q.Waiting) q).Cycle := ((add_rest x.Key _ q).2.2).symm
      simp only [Option.bind_some, tup]
      rw [this]; exact g1
    · obtain ⟨g1, g2, g3⟩ := F21_l2_spec hn now xs (i + 1) q h (fun y hy => hx y (List.mem_cons_of_mem _ hy))
      rw [adv, if_neg hc, if_neg hc]
      exact ⟨g1, g2, g3⟩
theorem F21_spec {q : Q} {n : Nat} (hn : n ≤ 1000) (h : Inv q n) (now : Int) : F21 q now = some (adv now q.Backoff q) ∧ Inv (adv now q.Backoff q) n ∧ ∀ k, cq k (adv now q.Backoff q) = cq k q := by
  obtain ⟨g1, g2, g3⟩ := F21_l2_spec hn now q.Backoff 0 q h (fun x hx => one_of_mem h.one (.inr (.inr hx)))
  refine ⟨?_, g2, g3⟩
  unfold F21
  rw [F34_spec (h.sm hn), Option.bind_some, ck_t ⟨Nat.zero_le _, by have := (h.sm hn).b; omega⟩, Option.bind_some]
  simp only [tup]
  rw [g1]; rfl

/-! Retry. -/
def dly : Nat → Int → Int
  | 0, d => d
  | m + 1, d => if 60 ≤ d then d else dly m (d * 2)
theorem dly_bd : ∀ (m : Nat) (d : Int), 1 ≤ d → d ≤ 120 → 1 ≤ dly m d ∧ dly m d ≤ 120
  | 0, d, h1, h2 => ⟨h1, h2⟩
  | m + 1, d, h1, h2 => by
    unfold dly
    split
    · exact ⟨h1, h2⟩
    · exact dly_bd m (d * 2) (by omega) (by omega)
theorem dly_mono : ∀ (m : Nat) (d : Int), 1 ≤ d → dly m d ≤ dly (m + 1) d
  | 0, d, h => by unfold dly; split; exact Int.le_refl _; unfold dly; omega
  | m + 1, d, h => by
    have ih := dly_mono m (d * 2) (by omega)
    rw [dly, dly]
    split
    · exact Int.le_refl _
    · exact ih
def dl (n : Int) : Int := if 60 < dly (min (n - 1) 64).toNat 1 then 60 else dly (min (n - 1) 64).toNat 1
theorem dl_bd (n : Int) : 1 ≤ dl n ∧ dl n ≤ 60 := by
  have := dly_bd (min (n - 1) 64).toNat 1 (by omega) (by omega)
  unfold dl; split <;> omega
theorem dl_mono (n : Int) : dl n ≤ dl (n + 1) := by
  have h : dly (min (n - 1) 64).toNat 1 ≤ dly (min (n + 1 - 1) 64).toNat 1 := by
    by_cases h1 : n - 1 < 64 ∧ 0 ≤ n - 1
    · have e : (min (n + 1 - 1) 64).toNat = (min (n - 1) 64).toNat + 1 := by omega
      rw [e]; exact dly_mono _ _ (by omega)
    · have e : (min (n + 1 - 1) 64).toNat = (min (n - 1) 64).toNat := by omega
      rw [e]; exact Int.le_refl _
  unfold dl; split <;> split <;> omega
theorem F40_l4_spec (n : Int) (h1 : 1 ≤ n) (h2 : n ≤ 1000000) : ∀ (m k : Nat) (d : Int) (i : Nat), (min (n - 1) 64).toNat = i + m → m < k → 1 ≤ d → d ≤ 120 → F40_l4 60 n k d (i : Int) = some (dly m d)
  | _, 0, _, _, _, h, _, _ => by omega
  | 0, k + 1, d, i, hm, _, hd, hd2 => by
    have e1 : IntKind.i64.wrap (n - 1) = n - 1 := wrapI (by omega) (by omega)
    rw [F40_l4, e1, if_neg (by split <;> omega)]; rfl
  | m + 1, k + 1, d, i, hm, hk, hd, hd2 => by
    have e1 : IntKind.i64.wrap (n - 1) = n - 1 := wrapI (by omega) (by omega)
    have e2 : IntKind.i64.wrap (d * 2) = d * 2 := wrapI (by omega) (by omega)
    have e3 : IntKind.i64.wrap ((i : Int) + 1) = ((i + 1 : Nat) : Int) := by rw [wrapI (by omega) (by omega)]; omega
    have e4 : (if (1000000000000 : Int) < (if (60 : Int) < 0 then 0 else 60) then 1000000000000 else (if (60 : Int) < 0 then 0 else 60)) = (60 : Int) := by decide
    rw [F40_l4, e1, if_pos (by split <;> omega), e4, e2, e3, dly]
    by_cases hc : 60 ≤ d
    · rw [if_pos hc, if_pos hc]
    · rw [if_neg hc, if_neg hc]
      exact F40_l4_spec n h1 h2 m k (d * 2) (i + 1) (by omega) (by omega) (by omega) (by omega)
theorem F40_spec (n : Int) (h1 : 1 ≤ n) (h2 : n ≤ 1000000) : F40 1 60 n = some (dl n) := by
  unfold F40
  simp only [F57, Option.bind_some]
  rw [if_neg (by omega)]
  have e1 : (if (1000000000000 : Int) < (if (1 : Int) < 0 then 0 else 1) then 1000000000000 else (if (1 : Int) < 0 then 0 else 1)) = (1 : Int) := by decide
  have e4 : (if (1000000000000 : Int) < (if (60 : Int) < 0 then 0 else 60) then 1000000000000 else (if (60 : Int) < 0 then 0 else 60)) = (60 : Int) := by decide
  have := F40_l4_spec n h1 h2 (min (n - 1) 64).toNat 1099511627776 1 0 (by omega) (by omega) (by omega) (by omega)
  rw [show ((0 : Nat) : Int) = 0 from rfl] at this
  rw [e1, e4, this]; rfl
theorem look_bd {k : ByteArray} {l : List W} {n : Nat} (h : ∀ x ∈ l, 0 ≤ x.At ∧ x.At ≤ n) : 0 ≤ look k l ∧ look k l ≤ n := by
  unfold look
  cases hl : l[fi k l]? with
  | none => exact ⟨Int.le_refl _, by simp⟩
  | some y => exact h y (List.mem_of_getElem? hl)
def cm (n : Int) : Int := if 1000000000000 < (if n < 0 then 0 else n) then 1000000000000 else (if n < 0 then 0 else n)
theorem cm_bd (n : Int) : 0 ≤ cm n ∧ cm n ≤ 1000000000000 := by unfold cm; split <;> split <;> omega
def atQ (k : ByteArray) (now : Int) (q : Q) : Int := if 1000000000000 < cm now + dl (look k q.Retries + 1) then 1000000000000 else cm now + dl (look k q.Retries + 1)
def retQ (k : ByteArray) (p now : Int) (q : Q) : Q := ⟨insW leK ⟨k, p⟩ (flt k q.Waiting), flt k q.Active, flt k q.Stuck, insW leT ⟨k, atQ k now q⟩ (flt k q.Backoff), insW leK ⟨k, look k q.Retries + 1⟩ (flt k q.Retries), q.Cycle⟩
theorem F18_spec {q : Q} {n : Nat} (hn : n ≤ 1000) (h : Inv q n) (k : ByteArray) (p now : Int) : F18 q k p now = some (tup (retQ k p now q)) := by
  have hs := h.sm hn
  have hl := look_bd (k := k) h.ra
  have e1 : IntKind.i64.wrap (look k q.Retries + 1) = look k q.Retries + 1 := wrapI (by omega) (by omega)
  have hd := dl_bd (look k q.Retries + 1)
  have hc := cm_bd now
  have e2 : IntKind.i64.wrap (cm now + dl (look k q.Retries + 1)) = cm now + dl (look k q.Retries + 1) := wrapI (by omega) (by omega)
  unfold F18
  rw [F39_spec _ _ hs.r, Option.bind_some, e1, if_neg (by omega), F40_spec _ (by omega) (by omega), Option.bind_some, F35_spec k hs]
  simp only [Option.bind_some, tup, outQ]
  rw [F41_spec _ _ hs.r, Option.bind_some, F36v1_spec _ _ (by have := flt_len k q.Retries; have := hs.r; omega), Option.bind_some, F36v2_spec _ _ (by have := flt_len k q.Backoff; have := hs.b; omega), Option.bind_some, F36v1_spec _ _ (by have := flt_len k q.Waiting; have := hs.w; omega), Option.bind_some]
  have e3 : (if 1000000000000 < IntKind.i64.wrap ((if 1000000000000 < (if now < 0 then 0 else now) then 1000000000000 else (if now < 0 then 0 else now)) + dl (look k q.Retries + 1)) then 1000000000000 else IntKind.i64.wrap ((if 1000000000000 < (if now < 0 then 0 else now) then 1000000000000 else (if now < 0 then 0 else now)) + dl (look k q.Retries + 1))) = atQ k now q := by
    show (if 1000000000000 < IntKind.i64.wrap (cm now + dl (look k q.Retries + 1)) then 1000000000000 else IntKind.i64.wrap (cm now + dl (look k q.Retries + 1))) = _
    rw [e2]; rfl
  rw [e3]; rfl

/-! An operation. -/
def dq (a : Act) (q : Q) : Q :=
  if a.Kind = 0 then addQ a.Key a.Priority q else if a.Kind = 1 then popQ q else if a.Kind = 2 then stuckQ a.Key a.Priority q else if a.Kind = 3 then retQ a.Key a.Priority a.N q
  else if a.Kind = 4 then wk q.Stuck q else if a.Kind = 5 then adv a.N q.Backoff q else remQ a.Key q
def dk (a : Act) (q : Q) : ByteArray := if a.Kind = 1 then popK q else ⟨#[]⟩
def db (a : Act) (q : Q) : Bool := if a.Kind = 1 then popB q else false
theorem F11_spec {q : Q} {n : Nat} (hn : n ≤ 1000) (h : Inv q n) (a : Act) : F11 q a = some (tup8 (dq a q) (dk a q) (db a q)) := by
  have hs := h.sm hn
  unfold F11 dq dk db
  by_cases h0 : a.Kind = 0
  · rw [if_pos h0, F15_spec _ _ hs, if_pos h0, if_neg (by omega), if_neg (by omega)]
    have := (add_rest a.Key a.Priority q).2.2
    simp only [Option.bind_some, tup, tup8, this]
  rw [if_neg h0, if_neg h0]
  by_cases h1 : a.Kind = 1
  · rw [if_pos h1, if_pos h1, if_pos h1, if_pos h1, F17_spec hs (by have := h.c; omega)]; rfl
  rw [if_neg h1, if_neg h1, if_neg h1, if_neg h1]
  by_cases h2 : a.Kind = 2
  · rw [if_pos h2, if_pos h2, F23_spec _ _ hs]; rfl
  rw [if_neg h2, if_neg h2]
  by_cases h3 : a.Kind = 3
  · rw [if_pos h3, if_pos h3, F18_spec hn h]; rfl
  rw [if_neg h3, if_neg h3]
  by_cases h4 : a.Kind = 4
  · rw [if_pos h4, if_pos h4, (F22_spec hn h).1]; rfl
  rw [if_neg h4, if_neg h4]
  by_cases h5 : a.Kind = 5
  · rw [if_pos h5, if_pos h5, (F21_spec hn h a.N).1]; rfl
  rw [if_neg h5, if_neg h5, F24_spec _ hs]; rfl

theorem inv_new : Inv (⟨[], [], [], [], [], 0⟩ : Q) 0 := ⟨fun k => by simp [cq, ct], by simp [totQ], by simp, by simp, by simp, by simp⟩

theorem dq_inv {q : Q} {n : Nat} (hn : n ≤ 999) (h : Inv q n) (a : Act) : Inv (dq a q) (n + 1) ∧
    ∀ k, cq k (dq a q) = if a.Key = k ∧ (a.Kind = 0 ∨ a.Kind = 2 ∨ a.Kind = 3) then 1 else if (db a q = true ∧ dk a q = k) ∨ ((a.Kind < 0 ∨ 5 < a.Kind) ∧ a.Key = k) then 0 else cq k q := by
  have hs := h.sm (by omega)
  unfold dq dk db
  by_cases h0 : a.Kind = 0
  · rw [if_pos h0, if_neg (by omega), if_neg (by omega)]
    refine ⟨inv_add h a.Key a.Priority (by omega) (by omega), fun k => ?_⟩
    rw [cq_add h.one]
    by_cases hk : k = a.Key
    · rw [if_pos hk, if_pos ⟨hk.symm, .inl h0⟩]
    · rw [if_neg hk, if_neg (fun e => hk e.1.symm), if_neg]
      rintro (⟨e, _⟩ | ⟨_, e⟩)
      · cases e
      · exact hk e.symm
  rw [if_neg h0]
  by_cases h1 : a.Kind = 1
  · rw [if_pos h1, if_pos h1, if_pos h1]
    cases hq : q.Active with
    | nil =>
      have e1 : popQ q = q := by unfold popQ; rw [hq]
      have e2 : popB q = false := by unfold popB; rw [hq]
      rw [e1, e2]
      refine ⟨h.mono (by omega), fun k => ?_⟩
      rw [if_neg (by rintro ⟨_, e⟩; omega), if_neg]
      rintro (⟨e, _⟩ | ⟨e, _⟩)
      · cases e
      · omega
    | cons y l =>
      have e1 : popQ q = ⟨q.Waiting, l, q.Stuck, q.Backoff, q.Retries, q.Cycle + 1⟩ := by unfold popQ; rw [hq]
      have e2 : popB q = true := by unfold popB; rw [hq]
      have e3 : popK q = y.Key := by unfold popK; rw [hq]
      rw [e1, e2, e3]
      have hone := h.one
      have htot := h.tot
      unfold cq at hone
      unfold totQ at htot
      rw [hq] at htot
      simp only [List.length_cons] at htot
      have hk : ∀ k, (if y.Key = k then 1 else 0) + ct k l + ct k q.Stuck + ct k q.Backoff ≤ 1 := fun k => by have := hone k; rw [hq, ct] at this; exact this
      refine ⟨⟨fun k => ?_, ?_, by have := h.w; simp only; omega, by have := h.r; simp only; omega, fun x hx => by have := h.ra x hx; omega, by have := h.c; simp only; omega⟩, fun k => ?_⟩
      · have := hk k; unfold cq; simp only; omega
      · unfold totQ; simp only; omega
      · rw [if_neg (by rintro ⟨_, e⟩; omega)]
        have := hk k
        unfold cq
        simp only
        by_cases hy : y.Key = k
        · rw [if_pos (.inl ⟨trivial, hy⟩)]; rw [if_pos hy] at this; omega
        · rw [if_neg, hq, ct, if_neg hy]
          · omega
          · rintro (⟨_, e⟩ | ⟨e, _⟩)
            · exact hy e
            · omega
  rw [if_neg h1, if_neg h1, if_neg h1]
  have nf : ∀ k, ¬ ((false = true ∧ (⟨#[]⟩ : ByteArray) = k) ∨ ((a.Kind < 0 ∨ 5 < a.Kind) ∧ a.Key = k)) ↔ ¬ ((a.Kind < 0 ∨ 5 < a.Kind) ∧ a.Key = k) := fun k => by simp
  by_cases h2 : a.Kind = 2
  · rw [if_pos h2]
    have hc : ∀ k, cq k (stuckQ a.Key a.Priority q) = if k = a.Key then 1 else cq k q := fun k => by
      have := cq_out a.Key k q
      unfold cq outQ at this
      unfold cq stuckQ
      simp only at this ⊢
      rw [ct_append]
      simp only [ct]
      by_cases hk : k = a.Key
      · rw [if_pos hk] at this ⊢; rw [if_pos hk.symm]; omega
      · rw [if_neg hk] at this ⊢; rw [if_neg (fun e => hk e.symm)]; omega
    refine ⟨⟨fun k => ?_, ?_, ?_, by have := h.r; show q.Retries.length ≤ _; omega, fun x hx => by have := h.ra x hx; omega, by have := h.c; show 0 ≤ q.Cycle ∧ q.Cycle ≤ _; omega⟩, fun k => ?_⟩
    · rw [hc]; split
      · exact Nat.le_refl _
      · exact h.one k
    · have := tot_out a.Key q
      have := h.tot
      unfold totQ outQ at *
      unfold stuckQ
      simp only [List.length_append, List.length_cons, List.length_nil] at *; omega
    · have := flt_len a.Key q.Waiting; have := h.w; show (flt a.Key q.Waiting).length ≤ _; omega
    · rw [hc]
      by_cases hk : k = a.Key
      · rw [if_pos hk, if_pos ⟨hk.symm, .inr (.inl h2)⟩]
      · rw [if_neg hk, if_neg (fun e => hk e.1.symm), if_neg]
        rw [nf]; rintro ⟨_, e⟩; exact hk e.symm
  rw [if_neg h2]
  by_cases h3 : a.Kind = 3
  · rw [if_pos h3]
    have hl := look_bd (k := a.Key) h.ra
    have hc : ∀ k, cq k (retQ a.Key a.Priority a.N q) = if k = a.Key then 1 else cq k q := fun k => by
      have := cq_out a.Key k q
      unfold cq outQ at this
      unfold cq retQ
      simp only at this ⊢
      rw [ct_insW]
      by_cases hk : k = a.Key
      · rw [if_pos hk] at this ⊢; rw [if_pos hk.symm]; omega
      · rw [if_neg hk] at this ⊢; rw [if_neg (fun e => hk e.symm)]; omega
    refine ⟨⟨fun k => ?_, ?_, ?_, ?_, fun x hx => ?_, by have := h.c; show 0 ≤ q.Cycle ∧ q.Cycle ≤ _; omega⟩, fun k => ?_⟩
    · rw [hc]; split
      · exact Nat.le_refl _
      · exact h.one k
    · have := tot_out a.Key q
      have := h.tot
      unfold totQ outQ at *
      unfold retQ
      simp only [insW_len] at *; omega
    · have := flt_len a.Key q.Waiting; have := h.w; show (insW leK _ (flt a.Key q.Waiting)).length ≤ _; rw [insW_len]; omega
    · have := flt_len a.Key q.Retries; have := h.r; show (insW leK _ (flt a.Key q.Retries)).length ≤ _; rw [insW_len]; omega
    · have hx' : x ∈ insW leK ⟨a.Key, look a.Key q.Retries + 1⟩ (flt a.Key q.Retries) := hx
      rw [insW_mem] at hx'
      rcases hx' with rfl | hx'
      · simp only; omega
      · have := h.ra x (List.mem_filter.1 hx').1; omega
    · rw [hc]
      by_cases hk : k = a.Key
      · rw [if_pos hk, if_pos ⟨hk.symm, .inr (.inr h3)⟩]
      · rw [if_neg hk, if_neg (fun e => hk e.1.symm), if_neg]
        rw [nf]; rintro ⟨_, e⟩; exact hk e.symm
  rw [if_neg h3]
  by_cases h4 : a.Kind = 4
  · rw [if_pos h4]
    obtain ⟨_, g2, g3⟩ := F22_spec (by omega) h
    refine ⟨g2.mono (by omega), fun k => ?_⟩
    rw [g3, if_neg (by rintro ⟨_, e⟩; omega), if_neg]
    rw [nf]; rintro ⟨e, _⟩; omega
  rw [if_neg h4]
  by_cases h5 : a.Kind = 5
  · rw [if_pos h5]
    obtain ⟨_, g2, g3⟩ := F21_spec (by omega) h a.N
    refine ⟨g2.mono (by omega), fun k => ?_⟩
    rw [g3, if_neg (by rintro ⟨_, e⟩; omega), if_neg]
    rw [nf]; rintro ⟨e, _⟩; omega
  rw [if_neg h5]
  have hc : ∀ k, cq k (remQ a.Key q) = if k = a.Key then 0 else cq k q := fun k => cq_out a.Key k q
  refine ⟨⟨fun k => ?_, ?_, ?_, ?_, fun x hx => ?_, by have := h.c; show 0 ≤ q.Cycle ∧ q.Cycle ≤ _; omega⟩, fun k => ?_⟩
  · rw [hc]; split
    · omega
    · exact h.one k
  · have h6 := tot_out a.Key q
    have := h.tot
    have e : totQ (remQ a.Key q) = totQ (outQ a.Key q) := rfl
    omega
  · have := flt_len a.Key q.Waiting; have := h.w; show (flt a.Key q.Waiting).length ≤ _; omega
  · have := flt_len a.Key q.Retries; have := h.r; show (flt a.Key q.Retries).length ≤ _; omega
  · have hx' : x ∈ flt a.Key q.Retries := hx
    have := h.ra x (List.mem_filter.1 hx').1; omega
  · have hn1 : ¬ (a.Key = k ∧ (a.Kind = 0 ∨ a.Kind = 2 ∨ a.Kind = 3)) := by rintro ⟨_, e⟩; omega
    rw [hc, if_neg hn1]
    by_cases hk : k = a.Key
    · rw [if_pos hk, if_pos (.inr ⟨by omega, hk.symm⟩)]
    · rw [if_neg hk, if_neg]
      rw [nf]; rintro ⟨_, e⟩; exact hk e.symm

/-! Once. -/
theorem F20_l1_spec (k : ByteArray) : ∀ (l : List W) (i : Nat) (o : Nat), o + l.length ≤ 1000000 → F20_l1 k l i (o : Int) = some ((o + ct k l : Nat) : Int)
  | [], i, o, _ => rfl
  | y :: l, i, o, h => by
    simp only [List.length_cons] at h
    have e1 : IntKind.i64.wrap ((o : Int) + 1) = ((o + 1 : Nat) : Int) := by rw [wrapI (by omega) (by omega)]; omega
    rw [F20_l1, ite_some, Option.bind_some, ct]
    by_cases hy : y.Key = k
    · rw [if_pos hy, e1, F20_l1_spec k l (i + 1) (o + 1) (by omega), if_pos hy]; congr 2; omega
    · rw [if_neg hy, F20_l1_spec k l (i + 1) o (by omega), if_neg hy, Nat.zero_add]
theorem F20_spec (k : ByteArray) (l : List W) (h : l.length ≤ 1000000) : F20 l k = some ((ct k l : Nat) : Int) := by
  unfold F20
  have := F20_l1_spec k l 0 0 (by omega)
  rw [show ((0 : Nat) : Int) = 0 from rfl] at this
  rw [ck_t ⟨Nat.zero_le _, by omega⟩, Option.bind_some, this]; simp
theorem F14_spec {q : Q} (k : ByteArray) (h : Sm q 1000000) (h1 : cq k q ≤ 1) : F14 q k = some ((cq k q : Nat) : Int) := by
  unfold F14
  rw [F20_spec _ _ h.a, F20_spec _ _ h.s, F20_spec _ _ h.b]
  simp only [Option.bind_some]
  unfold cq at h1 ⊢
  rw [wrapI (n := (ct k q.Active : Int) + (ct k q.Stuck : Int)) (by omega) (by omega), wrapI (by omega) (by omega)]
  rfl

theorem F7_l2_true : ∀ (l : List Act) (i : Nat), (F7_l2 l i = some (.inr ()) ∧ ∀ a ∈ l, a.Key.size ≤ 200) ∨ F7_l2 l i = some (.inl false)
  | [], i => .inl ⟨rfl, by simp⟩
  | a :: l, i => by
    rw [F7_l2]
    by_cases h : 200 < (a.Key.size : Int)
    · rw [if_pos h]; exact .inr rfl
    · rw [if_neg h]
      rcases F7_l2_true l (i + 1) with ⟨h1, h2⟩ | h1
      · exact .inl ⟨h1, fun b hb => by rcases List.mem_cons.1 hb with rfl | hb; omega; exact h2 b hb⟩
      · exact .inr h1
theorem F7_spec (l : List Act) : F7 l = some false ∨ F7 l = some true ∧ l.length ≤ 60 := by
  unfold F7
  by_cases h : 60 < (l.length : Int)
  · rw [if_pos h]; exact .inl rfl
  · rw [if_neg h, ck_t ⟨Nat.zero_le _, by omega⟩, Option.bind_some]
    rcases F7_l2_true l 0 with ⟨h1, _⟩ | h1
    · rw [h1]; exact .inr ⟨rfl, by omega⟩
    · rw [h1]; exact .inl rfl
theorem F8_true : F8 = some true := by kernel_rfl

theorem F4_l7_spec (k : ByteArray) : ∀ (l : List Act) (i : Nat) (q : Q) (b : Bool) (n : Nat), (∀ a ∈ l, 0 ≤ a.Kind) → n + l.length ≤ 900 → Inv q n → (cq k q = if b = true then 1 else 0) → F4_l7 k l i q b = some (.inr ())
  | [], i, q, b, n, _, _, _, _ => rfl
  | a :: l, i, q, b, n, ha, hn, h, hb => by
    simp only [List.length_cons] at hn
    have h0 := ha a (List.mem_cons_self ..)
    obtain ⟨g1, g2⟩ := dq_inv (by omega) h a
    have e : (⟨q.Waiting, q.Active, q.Stuck, q.Backoff, q.Retries, q.Cycle⟩ : SchedQueue) = q := rfl
    have step : F4_l7 k (a :: l) i q b = (((if a.Key = k then (if a.Kind = 0 then some true else (if a.Kind = 2 then some true else some (decide (a.Kind = 3)))) else some false).bind fun o11 => (if o11 = true then some true else some b)).bind fun o10 =>
        ((if db a q = true then (if dk a q = k then some true else (if 5 < a.Kind then some (decide (a.Key = k)) else some false)) else (if 5 < a.Kind then some (decide (a.Key = k)) else some false)).bind fun o17 => (if o17 = true then some false else some o10)).bind fun o16 =>
        (F14 (dq a q) k).bind fun t23 => (if 1 < t23 then some true else some ((((decide (t23 = 1)) == o16) != true))).bind fun o24 => (if o24 = true then (some false).map Sum.inl else F4_l7 k l (i + 1) (dq a q) o16)) := by
      rw [F4_l7, e, F11_spec (by omega) h a, Option.bind_some]; rfl
    rw [step]
    have e1 : (if a.Key = k then (if a.Kind = 0 then some true else (if a.Kind = 2 then some true else some (decide (a.Kind = 3)))) else some false) = some (decide (a.Key = k ∧ (a.Kind = 0 ∨ a.Kind = 2 ∨ a.Kind = 3))) := by
      by_cases c1 : a.Key = k
      · rw [if_pos c1]
        by_cases c2 : a.Kind = 0
        · rw [if_pos c2]; simp [c1, c2]
        · rw [if_neg c2]
          by_cases c3 : a.Kind = 2
          · rw [if_pos c3]; simp [c1, c3]
          · rw [if_neg c3]; simp [c1, c2, c3]
      · rw [if_neg c1]; simp [c1]
    have e2 : (if db a q = true then (if dk a q = k then some true else (if 5 < a.Kind then some (decide (a.Key = k)) else some false)) else (if 5 < a.Kind then some (decide (a.Key = k)) else some false)) = some (decide ((db a q = true ∧ dk a q = k) ∨ ((a.Kind < 0 ∨ 5 < a.Kind) ∧ a.Key = k))) := by
      have c0 : ¬ a.Kind < 0 := by omega
      by_cases c1 : db a q = true <;> by_cases c2 : dk a q = k <;> by_cases c3 : 5 < a.Kind <;> by_cases c4 : a.Key = k <;> simp [c0, c1, c2, c3, c4]
    rw [e1, e2]
    simp only [Option.bind_some, ite_some, decide_eq_true_eq]
    rw [F14_spec k (g1.sm (by omega)) (g1.one k), Option.bind_some, if_neg (show ¬ (1 : Int) < ((cq k (dq a q) : Nat) : Int) from by have := g1.one k; omega)]
    have hk := g2 k
    have hb' : cq k (dq a q) = if (if (db a q = true ∧ dk a q = k) ∨ ((a.Kind < 0 ∨ 5 < a.Kind) ∧ a.Key = k) then false else (if a.Key = k ∧ (a.Kind = 0 ∨ a.Kind = 2 ∨ a.Kind = 3) then true else b)) = true then 1 else 0 := by
      rw [hk]
      by_cases c1 : a.Key = k ∧ (a.Kind = 0 ∨ a.Kind = 2 ∨ a.Kind = 3)
      · have c3 : ¬ ((db a q = true ∧ dk a q = k) ∨ ((a.Kind < 0 ∨ 5 < a.Kind) ∧ a.Key = k)) := by
          rintro (⟨c2, _⟩ | ⟨c2, _⟩)
          · unfold db at c2; rw [if_neg (by omega)] at c2; cases c2
          · omega
        rw [if_pos c1, if_neg c3, if_pos c1]; rfl
      · rw [if_neg c1, if_neg c1]
        by_cases c2 : (db a q = true ∧ dk a q = k) ∨ ((a.Kind < 0 ∨ 5 < a.Kind) ∧ a.Key = k)
        · rw [if_pos c2, if_pos c2]; rfl
        · rw [if_neg c2, if_neg c2]; exact hb
    generalize (if (db a q = true ∧ dk a q = k) ∨ ((a.Kind < 0 ∨ 5 < a.Kind) ∧ a.Key = k) then false else (if a.Key = k ∧ (a.Kind = 0 ∨ a.Kind = 2 ∨ a.Kind = 3) then true else b)) = b2 at hb'
    have e4 : ((decide (((cq k (dq a q) : Nat) : Int) = 1) == b2) != true) = false := by
      rw [hb']; cases b2 <;> rfl
    rw [e4]
    simp only [Option.bind_some, Bool.false_eq_true, if_false]
    exact F4_l7_spec k l (i + 1) (dq a q) b2 (n + 1) (fun c hc => ha c (List.mem_cons_of_mem _ hc)) (by omega) g1 hb'
theorem SchedqueueOnce_pure : SchedqueueOnce.Pure := by
  intro l k ok _ _
  unfold F4
  rcases F7_spec l with h | ⟨h, hl⟩
  · rw [h]; simp [nb, F8_true]
  · rw [h]
    simp only [Option.bind_some]
    rw [if_neg (by simp [nb])]
    simp only [Option.bind_some, decide_eq_true_eq, F9, F8_true]
    by_cases h2 : 200 < (k.size : Int)
    · rw [if_pos h2]
    · rw [if_neg h2, ck_t ⟨Nat.zero_le _, by omega⟩, Option.bind_some]
      rw [F4_l7_spec k l 0 _ false 0 (fun a ha => ?_) (by omega) inv_new (by simp [cq, ct])]
      · rfl
      · exact (ok a ha).1.1
end Go.Proofs.Ytdpbdbclninjaaa
