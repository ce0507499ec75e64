/- The plain laws, part 3. -/
import Derived.Test.YtdpbdbclninjaaaQ2
set_option linter.unusedVariables false
set_option linter.unusedSimpArgs false
namespace Go.Proofs.Ytdpbdbclninjaaa
open Go Go.Fw
set_option maxRecDepth 100000

/-! Waits. -/
theorem F6_l9_spec : ∀ (l : List Act) (i : Nat) (q : Q) (n : Nat), n + l.length ≤ 900 → Inv q n → ∃ q', F6_l9 l i q = some q' ∧ Inv q' (n + l.length)
  | [], i, q, n, _, h => ⟨q, rfl, h⟩
  | a :: l, i, q, n, hn, h => by
    simp only [List.length_cons] at hn
    obtain ⟨g1, _⟩ := dq_inv (by omega) h a
    obtain ⟨q', h1, h2⟩ := F6_l9_spec l (i + 1) (dq a q) (n + 1) (by omega) g1
    refine ⟨q', ?_, by simp only [List.length_cons]; exact h2.mono (by omega)⟩
    have e : (⟨q.Waiting, q.Active, q.Stuck, q.Backoff, q.Retries, q.Cycle⟩ : SchedQueue) = q := rfl
    rw [F6_l9, e, F11_spec (by omega) h a, Option.bind_some]
    exact h1
def unt (k : ByteArray) (l : List W) : Int := match l[fi k l]? with | some y => y.At | none => -1
theorem F19_l1_spec (k : ByteArray) : ∀ (l : List W) (i : Nat), F19_l1 k l i = some (match l[fi k l]? with | some y => .inl y.At | none => .inr ())
  | [], i => rfl
  | y :: l, i => by
    rw [F19_l1, fi]
    by_cases h : y.Key = k
    · rw [if_pos h, if_pos h]; rfl
    · rw [if_neg h, if_neg h, F19_l1_spec k l (i + 1), List.getElem?_cons_succ]
theorem F19_spec {q : Q} (k : ByteArray) (h : q.Backoff.length ≤ 1000000) : F19 q k = some (unt k q.Backoff) := by
  unfold F19 unt
  rw [ck_t ⟨Nat.zero_le _, by omega⟩, Option.bind_some, F19_l1_spec, Option.bind_some]
  cases q.Backoff[fi k q.Backoff]? <;> rfl
theorem fi_insW (le : W → W → Bool) (x : W) : ∀ {l : List W}, (∀ y ∈ l, y.Key ≠ x.Key) → (insW le x l)[fi x.Key (insW le x l)]? = some x
  | [], _ => by simp [insW, fi]
  | y :: l, h => by
    unfold insW
    split
    · rw [fi, if_neg (h y (List.mem_cons_self ..)), List.getElem?_cons_succ]
      exact fi_insW le x fun z hz => h z (List.mem_cons_of_mem _ hz)
    · simp [fi]
theorem flt_ne (k : ByteArray) (l : List W) : ∀ y ∈ flt k l, y.Key ≠ k := fun y hy => by simpa using (List.mem_filter.1 hy).2
theorem look_insW (le : W → W → Bool) (k : ByteArray) (p : Int) (l : List W) : look k (insW le ⟨k, p⟩ (flt k l)) = p := by
  unfold look
  have := fi_insW le ⟨k, p⟩ (flt_ne k l)
  rw [this]
theorem unt_insW (le : W → W → Bool) (k : ByteArray) (p : Int) (l : List W) : unt k (insW le ⟨k, p⟩ (flt k l)) = p := by
  unfold unt
  have := fi_insW le ⟨k, p⟩ (flt_ne k l)
  rw [this]
theorem look_flt {k k2 : ByteArray} (hk : k ≠ k2) : ∀ l : List W, look k (flt k2 l) = look k l
  | [] => rfl
  | y :: l => by
    have ih := look_flt hk l
    unfold look flt at ih ⊢
    by_cases h : y.Key = k2
    · rw [List.filter_cons_of_neg (by simpa using h), ih]
      rw [fi.eq_2, if_neg (fun e => hk (by rw [← e, h])), List.getElem?_cons_succ]
    · rw [List.filter_cons_of_pos (by simpa using h), fi.eq_2, fi.eq_2]
      by_cases h2 : y.Key = k
      · rw [if_pos h2, if_pos h2]; rfl
      · rw [if_neg h2, if_neg h2, List.getElem?_cons_succ, List.getElem?_cons_succ, ih]

theorem ct_add_ne {k k2 : ByteArray} (hk : k ≠ k2) (p : Int) (q : Q) : ct k (addQ k2 p q).Active = ct k q.Active := by
  unfold addQ
  by_cases hm : (⟨k2, p⟩ : W) ∈ q.Active
  · rw [if_pos hm]
  · rw [if_neg hm]
    simp only
    rw [ct_insW, ct_flt_ne hk, if_neg (fun e => hk e.symm)]; omega
theorem adv_none {k : ByteArray} {now : Int} : ∀ (xs : List W) (q : Q), (∀ x ∈ xs, x.Key = k → now < x.At) → ct k (adv now xs q).Active = ct k q.Active
  | [], q, _ => rfl
  | x :: xs, q, h => by
    rw [adv, adv_none xs _ fun y hy => h y (List.mem_cons_of_mem _ hy)]
    by_cases hc : x.At ≤ now
    · rw [if_pos hc]
      exact ct_add_ne (fun e => by have := h x (List.mem_cons_self ..) e.symm; omega) _ q
    · rw [if_neg hc]
structure J2 (k : ByteArray) (p : Int) (q : Q) : Prop where
  ex : ∃ x ∈ q.Active, x.Key = k
  all : ∀ x ∈ q.Active, x.Key = k → x.At = p
theorem J2_add {k k2 : ByteArray} {p : Int} (hk : k2 ≠ k) (p2 : Int) {q : Q} (h : J2 k p q) : J2 k p (addQ k2 p2 q) := by
  unfold addQ
  by_cases hm : (⟨k2, p2⟩ : W) ∈ q.Active
  · rw [if_pos hm]; exact h
  · rw [if_neg hm]
    obtain ⟨⟨x, hx, hxk⟩, h2⟩ := h
    refine ⟨⟨x, ?_, hxk⟩, fun y hy hyk => ?_⟩
    · show x ∈ insW leP _ (flt k2 q.Active)
      rw [insW_mem]
      exact .inr (List.mem_filter.2 ⟨hx, by simpa using fun e => hk (by rw [← e, hxk])⟩)
    · have hy' : y ∈ insW leP ⟨k2, p2⟩ (flt k2 q.Active) := hy
      rw [insW_mem] at hy'
      rcases hy' with rfl | hy'
      · exact (hk hyk).elim
      · exact h2 y (List.mem_filter.1 hy').1 hyk
theorem adv_J2 {k : ByteArray} {p now : Int} : ∀ (xs : List W) (q : Q), (∀ x ∈ xs, x.Key ≠ k) → J2 k p q → J2 k p (adv now xs q)
  | [], q, _, h => h
  | x :: xs, q, hx, h => by
    rw [adv]
    refine adv_J2 xs _ (fun y hy => hx y (List.mem_cons_of_mem _ hy)) ?_
    split
    · exact J2_add (hx x (List.mem_cons_self ..)) _ h
    · exact h
theorem ct_zero {k : ByteArray} : ∀ {l : List W}, ct k l = 0 → ∀ x ∈ l, x.Key ≠ k := fun {l} h x hx e => by
  have := ct_mem hx
  rw [e] at this; omega
theorem adv_J1 {k : ByteArray} {p now : Int} : ∀ (xs : List W) (q : Q), look k q.Waiting = p → ct k q.Active = 0 → ct k xs = 1 → (∀ x ∈ xs, x.Key = k → x.At ≤ now) → J2 k p (adv now xs q)
  | [], q, _, _, h, _ => by simp [ct] at h
  | x :: xs, q, hw, ha, h, hx => by
    rw [adv]
    rw [ct] at h
    by_cases hk : x.Key = k
    · rw [if_pos hk] at h
      rw [if_pos (hx x (List.mem_cons_self ..) hk)]
      refine adv_J2 xs _ (ct_zero (by omega)) ?_
      rw [hk, hw]
      have hm : (⟨k, p⟩ : W) ∉ q.Active := fun hm => ct_zero ha _ hm rfl
      rw [addQ, if_neg hm]
      refine ⟨⟨⟨k, p⟩, ?_, rfl⟩, fun y hy hyk => ?_⟩
      · show _ ∈ insW leP _ _
        rw [insW_mem]; exact .inl rfl
      · have hy' : y ∈ insW leP ⟨k, p⟩ (flt k q.Active) := hy
        rw [insW_mem] at hy'
        rcases hy' with rfl | hy'
        · rfl
        · exact (flt_ne k _ y hy' hyk).elim
    · rw [if_neg hk] at h
      have hne : k ≠ x.Key := fun e => hk e.symm
      refine adv_J1 xs _ ?_ ?_ (by omega) fun y hy => hx y (List.mem_cons_of_mem _ hy)
      · split
        · unfold addQ
          split
          · exact hw
          · show look k (flt x.Key q.Waiting) = p
            rw [look_flt hne]; exact hw
        · exact hw
      · split
        · rw [ct_add_ne hne]; exact ha
        · exact ha
theorem F6_l26_spec (t : Q) (k : ByteArray) (p : Int) (hall : ∀ x ∈ t.Active, x.Key = k → x.At = p) : ∀ n i, t.Active.length = i + n → (∃ x ∈ t.Active.drop i, x.Key = k) → F6_l26 t k p (t.Active.drop i) i = some (.inl true)
  | 0, i, h, hx => by
    rw [List.drop_of_length_le (by omega)] at hx
    obtain ⟨x, hx, _⟩ := hx; cases hx
  | n + 1, i, h, hx => by
    have hi : i < t.Active.length := by omega
    rw [List.drop_eq_getElem_cons hi, F6_l26, rdI_at hi, Option.bind_some, F8_true]
    by_cases hk : t.Active[i].Key = k
    · rw [if_pos hk, if_pos (hall _ (List.getElem_mem hi) hk)]; rfl
    · rw [if_neg hk]
      refine F6_l26_spec t k p hall n (i + 1) (by omega) ?_
      obtain ⟨x, hx, hxk⟩ := hx
      rw [List.drop_eq_getElem_cons hi] at hx
      rcases List.mem_cons.1 hx with rfl | hx
      · exact (hk hxk).elim
      · exact ⟨x, hx, hxk⟩

theorem ret_inv {q : Q} {n : Nat} (hn : n ≤ 900) (h : Inv q n) (k : ByteArray) (p now : Int) : Inv (retQ k p now q) (n + 1) :=
  (dq_inv (by omega) h ⟨3, k, p, now⟩).1

theorem SchedqueueWaits_pure : SchedqueueWaits.Pure := by
  intro l k p now ok _ _ hnow _
  unfold F6
  rcases F7_spec l with h | ⟨h, hl⟩
  · rw [h]; simp [nb, F8_true]
  rw [h]
  simp only [Option.bind_some]
  rw [if_neg (by simp [nb])]
  by_cases c1 : 200 < (k.size : Int)
  · rw [if_pos c1]; simp [F8_true]
  by_cases c2 : now < 0
  · rw [if_neg c1, if_pos c2]; simp [F8_true]
  by_cases c3 : 999999999900 < now
  · rw [if_neg c1, if_neg c2, decide_eq_true c3]; simp [F8_true]
  rw [if_neg c1, if_neg c2, decide_eq_false c3]
  simp only [Option.bind_some, Bool.false_eq_true, if_false, F9]
  rw [ck_t ⟨Nat.zero_le _, by omega⟩, Option.bind_some]
  obtain ⟨q, hq, hi⟩ := F6_l9_spec l 0 ⟨[], [], [], [], [], 0⟩ 0 (by omega) inv_new
  rw [Nat.zero_add] at hi
  rw [hq, Option.bind_some]
  have e : (⟨q.Waiting, q.Active, q.Stuck, q.Backoff, q.Retries, q.Cycle⟩ : SchedQueue) = q := rfl
  rw [e, F18_spec (by omega) hi k p now]
  have hi1 := ret_inv (by omega) hi k p now
  have hi2 := ret_inv (by omega) hi1 k p now
  have hlb := look_bd (k := k) hi.ra
  have d1 := dl_bd (look k q.Retries + 1)
  have d2 := dl_mono (look k q.Retries + 1)
  have d3 := dl_bd (look k q.Retries + 1 + 1)
  have hcm : cm now = now := by unfold cm; rw [if_neg c2, if_neg (by omega)]
  have ha : atQ k now q = now + dl (look k q.Retries + 1) := by unfold atQ; rw [hcm, if_neg (by omega)]
  have hb : atQ k now (retQ k p now q) = now + dl (look k q.Retries + 1 + 1) := by
    have : look k (retQ k p now q).Retries = look k q.Retries + 1 := look_insW leK k _ _
    unfold atQ; rw [this, hcm, if_neg (by omega)]
  have hu1 : unt k (retQ k p now q).Backoff = atQ k now q := unt_insW leT k _ _
  have hu2 : unt k (retQ k p now (retQ k p now q)).Backoff = atQ k now (retQ k p now q) := unt_insW leT k _ _
  have hw : look k (retQ k p now q).Waiting = p := look_insW leK k _ _
  have hact : ct k (retQ k p now q).Active = 0 := ct_flt_self k _
  have hbk : ct k (retQ k p now q).Backoff = 1 := by
    show ct k (insW leT ⟨k, atQ k now q⟩ (flt k q.Backoff)) = 1
    rw [ct_insW, ct_flt_self, if_pos rfl]
  have hba : ∀ x ∈ (retQ k p now q).Backoff, x.Key = k → x.At = atQ k now q := fun x hx hxk => by
    have hx' : x ∈ insW leT ⟨k, atQ k now q⟩ (flt k q.Backoff) := hx
    rw [insW_mem] at hx'
    rcases hx' with rfl | hx'
    · rfl
    · exact (flt_ne k _ x hx' hxk).elim
  have hcy : q.Cycle = (retQ k p now q).Cycle := rfl
  generalize hq1 : retQ k p now q = q1 at *
  rw [hcy]
  show ((F18 q1 k p now).bind fun t15 => (F19 q1 k).bind fun t16 => (F19 ⟨t15.1, t15.2.1, t15.2.2.1, t15.2.2.2.1, t15.2.2.2.2, q1.Cycle⟩ k).bind fun t17 =>
    (if t16 ≤ now then some true else (if t17 < t16 then some true else (if IntKind.i64.wrap (now + 60) < t16 then some true else (F21 q1 (IntKind.i64.wrap (t16 - 1))).bind fun t22 => (F20 t22.Active k).bind fun t23 => some (decide (¬ (t23 = 0)))))).bind fun o18 =>
    if o18 = true then some false else (F21 q1 t16).bind fun t25 => ((ck (0 ≤ t25.Active.length ∧ t25.Active.length ≤ 4294967290)).bind fun u33 => F6_l26 t25 k p t25.Active 0).bind fun o26 => match o26 with | .inl f => some f | .inr po26 => some false) = some true
  rw [F18_spec (by omega) hi1 k p now, Option.bind_some, F19_spec k (by have := (hi1.sm (by omega)).b; omega), Option.bind_some, hu1]
  have e2 : (⟨(tup (retQ k p now q1)).1, (tup (retQ k p now q1)).2.1, (tup (retQ k p now q1)).2.2.1, (tup (retQ k p now q1)).2.2.2.1, (tup (retQ k p now q1)).2.2.2.2, q1.Cycle⟩ : SchedQueue) = retQ k p now q1 := rfl
  rw [e2, F19_spec k (by have := (hi2.sm (by omega)).b; omega), Option.bind_some, hu2, hb, ha]
  rw [ha] at hba
  have w1 : IntKind.i64.wrap (now + 60) = now + 60 := wrapI (by omega) (by omega)
  have w2 : IntKind.i64.wrap (now + dl (look k q.Retries + 1) - 1) = now + dl (look k q.Retries + 1) - 1 := wrapI (by omega) (by omega)
  rw [w1, w2, if_neg (show ¬ now + dl (look k q.Retries + 1) ≤ now from by omega), if_neg (show ¬ now + dl (look k q.Retries + 1 + 1) < now + dl (look k q.Retries + 1) from by omega), if_neg (show ¬ now + 60 < now + dl (look k q.Retries + 1) from by omega)]
  obtain ⟨s1, s2, _⟩ := F21_spec (by omega) hi1 (now + dl (look k q.Retries + 1) - 1)
  rw [s1, Option.bind_some, F20_spec _ _ (s2.sm (by omega)).a, Option.bind_some, adv_none _ _ (fun x hx hxk => by rw [hba x hx hxk]; omega), hact]
  obtain ⟨r1, r2, _⟩ := F21_spec (by omega) hi1 (now + dl (look k q.Retries + 1))
  have hj := adv_J1 (now := now + dl (look k q.Retries + 1)) q1.Backoff q1 hw hact hbk (fun x hx hxk => by rw [hba x hx hxk]; omega)
  rw [r1]
  generalize adv (now + dl (look k q.Retries + 1)) q1.Backoff q1 = q2 at *
  have hl2 := (r2.sm (by omega)).a
  have := F6_l26_spec q2 k p hj.all q2.Active.length 0 (by omega) (by rw [List.drop_zero]; exact hj.ex)
  rw [List.drop_zero] at this
  simp only [Int.natCast_zero, not_true_eq_false, decide_false, Option.bind_some, Bool.false_eq_true, if_false]
  rw [ck_t ⟨Nat.zero_le _, by omega⟩, Option.bind_some, this]; rfl
end Go.Proofs.Ytdpbdbclninjaaa
