/- The plain laws, part 6. -/
import Derived.Test.YtdpbdbclninjaaaQ5
set_option linter.unusedVariables false
set_option linter.unusedSimpArgs false
namespace Go.Proofs.Ytdpbdbclninjaaa
open Go Go.Fw
set_option maxRecDepth 100000

/-! Plays. -/
def Asc : List W → Prop
  | [] => True
  | y :: l => (∀ z ∈ l, y.At ≤ z.At) ∧ Asc l
theorem asc_flt (k : ByteArray) : ∀ {l : List W}, Asc l → Asc (flt k l)
  | [], _ => trivial
  | y :: l, h => by
    by_cases hy : y.Key = k
    · have e : flt k (y :: l) = flt k l := List.filter_cons_of_neg (by simpa using hy)
      rw [e]; exact asc_flt k h.2
    · have e : flt k (y :: l) = y :: flt k l := List.filter_cons_of_pos (by simpa using hy)
      rw [e]; exact ⟨fun z hz => h.1 z (List.mem_filter.1 hz).1, asc_flt k h.2⟩
theorem asc_insW (x : W) : ∀ {l : List W}, Asc l → Asc (insW leT x l)
  | [], _ => by simp [insW, Asc]
  | y :: l, h => by
    unfold insW
    by_cases hc : leT y x = true
    · rw [if_pos hc]
      unfold leT at hc
      simp only [decide_eq_true_eq] at hc
      refine ⟨fun z hz => ?_, asc_insW x h.2⟩
      rw [insW_mem] at hz
      rcases hz with rfl | hz
      · omega
      · exact h.1 z hz
    · rw [if_neg hc]
      unfold leT at hc
      simp only [decide_eq_true_eq] at hc
      have hxy : x.At ≤ y.At := by omega
      refine ⟨fun z hz => ?_, h⟩
      rcases List.mem_cons.1 hz with rfl | hz
      · exact hxy
      · have := h.1 z hz; omega
theorem asc_drop : ∀ (i : Nat) {l : List W}, Asc l → Asc (l.drop i)
  | 0, _, h => h
  | i + 1, [], h => trivial
  | i + 1, y :: l, h => asc_drop i h.2
structure BI (q : Q) : Prop where
  asc : Asc q.Backoff
  bw : ∀ x ∈ q.Backoff, ct x.Key q.Waiting ≠ 0
theorem bi_flt (k : ByteArray) {q : Q} (h : BI q) : Asc (flt k q.Backoff) ∧ ∀ x ∈ flt k q.Backoff, ct x.Key (flt k q.Waiting) ≠ 0 :=
  ⟨asc_flt k h.asc, fun x hx => by rw [ct_flt_ne (flt_ne k _ x hx)]; exact h.bw x (List.mem_filter.1 hx).1⟩
theorem bi_add (k : ByteArray) (p : Int) {q : Q} (h : BI q) : BI (addQ k p q) := by
  unfold addQ
  by_cases hm : (⟨k, p⟩ : W) ∈ q.Active
  · rw [if_pos hm]; exact h
  · rw [if_neg hm]; exact ⟨(bi_flt k h).1, (bi_flt k h).2⟩
theorem bi_wk : ∀ (xs : List W) {q : Q}, BI q → BI (wk xs q)
  | [], _, h => h
  | x :: xs, q, h => bi_wk xs (bi_add _ _ h)
theorem bi_adv (now : Int) : ∀ (xs : List W) {q : Q}, BI q → BI (adv now xs q)
  | [], _, h => h
  | x :: xs, q, h => by
    rw [adv]
    refine bi_adv now xs ?_
    split
    · exact bi_add _ _ h
    · exact h
theorem bi_dq (a : Act) {q : Q} (h : BI q) : BI (dq a q) := by
  unfold dq
  by_cases h0 : a.Kind = 0
  · rw [if_pos h0]; exact bi_add _ _ h
  rw [if_neg h0]
  by_cases h1 : a.Kind = 1
  · rw [if_pos h1]
    cases hq : q.Active with
    | nil => have e1 : popQ q = q := by unfold popQ; rw [hq]
             rw [e1]; exact h
    | cons y l =>
      have e1 : popQ q = ⟨q.Waiting, l, q.Stuck, q.Backoff, q.Retries, q.Cycle + 1⟩ := by unfold popQ; rw [hq]
      rw [e1]; exact ⟨h.asc, h.bw⟩
  rw [if_neg h1]
  by_cases h2 : a.Kind = 2
  · rw [if_pos h2]; exact ⟨(bi_flt a.Key h).1, (bi_flt a.Key h).2⟩
  rw [if_neg h2]
  by_cases h3 : a.Kind = 3
  · rw [if_pos h3]
    refine ⟨asc_insW _ (bi_flt a.Key h).1, fun x hx => ?_⟩
    have hx' : x ∈ insW leT ⟨a.Key, atQ a.Key a.N q⟩ (flt a.Key q.Backoff) := hx
    show ct x.Key (insW leK ⟨a.Key, a.Priority⟩ (flt a.Key q.Waiting)) ≠ 0
    rw [ct_insW]
    rw [insW_mem] at hx'
    rcases hx' with rfl | hx'
    · rw [if_pos rfl]; omega
    · have := (bi_flt a.Key h).2 x hx'; omega
  rw [if_neg h3]
  by_cases h4 : a.Kind = 4
  · rw [if_pos h4]; exact bi_wk _ h
  rw [if_neg h4]
  by_cases h5 : a.Kind = 5
  · rw [if_pos h5]; exact bi_adv _ _ h
  rw [if_neg h5]; exact ⟨(bi_flt a.Key h).1, (bi_flt a.Key h).2⟩

theorem adv_stop {now : Int} : ∀ (xs : List W) (q : Q), (∀ x ∈ xs, now < x.At) → adv now xs q = q
  | [], _, _ => rfl
  | x :: xs, q, h => by
    have := h x (List.mem_cons_self ..)
    rw [adv, if_neg (by omega)]
    exact adv_stop xs q fun y hy => h y (List.mem_cons_of_mem _ hy)
theorem look_at {k : ByteArray} {l : List W} {z : W} (h : l[fi k l]? = some z) : look k l = z.At := by unfold look; rw [h]
theorem F30_l1_spec {m : Nat} (hm : m ≤ 1000) (q0 : Q) (now : Int) (hb : q0.Backoff.length ≤ 1000000) (hasc : Asc q0.Backoff) : ∀ (n k i : Nat) (q : Q), q0.Backoff.length = i + n → n < k → Inv q m →
    (∀ x ∈ q0.Backoff.drop i, cq x.Key q = 1) → (∀ x ∈ q0.Backoff.drop i, ct x.Key q.Waiting ≠ 0) → (∀ k, ct k (q0.Backoff.drop i) ≤ 1) → F30_l1 q0 now k q (i : Int) = some (adv now (q0.Backoff.drop i) q)
  | _, 0, _, _, _, h, _, _, _, _ => by omega
  | 0, k + 1, i, q, h, hk, hi, hx, hw, hc => by
    rw [F30_l1, if_neg (by omega), List.drop_of_length_le (by omega)]; rfl
  | n + 1, k + 1, i, q, h, hk, hi, hx, hw, hc => by
    have hil : i < q0.Backoff.length := by omega
    have hs := hi.sm hm
    have e1 : IntKind.i64.wrap ((i : Int) + 1) = ((i + 1 : Nat) : Int) := by rw [wrapI (by omega) (by omega)]; omega
    have ha := asc_drop i hasc
    rw [List.drop_eq_getElem_cons hil] at hx hw hc ha ⊢
    rw [F30_l1, if_pos (by omega), rdI_at hil]
    simp only [Option.bind_some, decide_eq_true_eq]
    by_cases hn : q0.Backoff[i].At ≤ now
    · rw [if_pos hn, F44_spec _ _ hs.w]
      have hf := fi_lt_of_ct (hw _ (List.mem_cons_self ..))
      obtain ⟨z, hz, hzk⟩ := fi_at _ hf
      simp only [Option.bind_some]
      rw [if_pos hf, if_pos (by omega), rdI_nat, hz]
      simp only [Option.bind_some]
      have e : (⟨q.Waiting, q.Active, q.Stuck, q.Backoff, q.Retries, q.Cycle⟩ : SchedQueue) = q := rfl
      rw [e, F25_spec hm hi]
      simp only [Option.bind_some]
      obtain ⟨_, r2, r3⟩ := add_rest q0.Backoff[i].Key z.At q
      have hone := hx _ (List.mem_cons_self ..)
      have h1 := inv_add hi q0.Backoff[i].Key z.At (Nat.le_refl m) (by rw [hone]; omega)
      have h2 : ∀ k, cq k (addQ q0.Backoff[i].Key z.At q) = cq k q := fun k => by
        rw [cq_add hi.one]; split
        · rename_i e; rw [e, hone]
        · rfl
      have hc' : ∀ k, ct k (q0.Backoff.drop (i + 1)) ≤ 1 := fun k => by have := hc k; rw [ct] at this; omega
      have ih := F30_l1_spec hm q0 now hb hasc n k (i + 1) (addQ q0.Backoff[i].Key z.At q) (by omega) (by omega) h1
        (fun y hy => by rw [h2]; exact hx y (List.mem_cons_of_mem _ hy))
        (fun y hy => by
          have hne : y.Key ≠ q0.Backoff[i].Key := fun e => by
            have h5 := hc q0.Backoff[i].Key
            rw [ct, if_pos rfl] at h5
            have h6 := ct_mem hy
            rw [e] at h6; omega
          have h7 := hw y (List.mem_cons_of_mem _ hy)
          unfold addQ
          split
          · exact h7
          · show ct y.Key (flt _ q.Waiting) ≠ 0
            rw [ct_flt_ne hne]; exact h7) hc'
      rw [adv, if_pos hn, look_at hz]
      show F30_l1 q0 now k ⟨(addQ q0.Backoff[i].Key z.At q).Waiting, (addQ q0.Backoff[i].Key z.At q).Active, (addQ q0.Backoff[i].Key z.At q).Stuck, (addQ q0.Backoff[i].Key z.At q).Backoff, q.Retries, q.Cycle⟩ (IntKind.i64.wrap ((i : Int) + 1)) = _
      rw [e1]
      have e3 : (⟨(addQ q0.Backoff[i].Key z.At q).Waiting, (addQ q0.Backoff[i].Key z.At q).Active, (addQ q0.Backoff[i].Key z.At q).Stuck, (addQ q0.Backoff[i].Key z.At q).Backoff, q.Retries, q.Cycle⟩ : SchedQueue) = addQ q0.Backoff[i].Key z.At q := by rw [← r2, ← r3]
      rw [e3]; exact ih
    · rw [if_neg hn, adv, if_neg hn, adv_stop _ _ (fun x hx' => by have := ha.1 x hx'; omega)]
theorem F30_spec {q : Q} {m : Nat} (hm : m ≤ 1000) (h : Inv q m) (hb : BI q) (now : Int) : F30 q now = some (adv now q.Backoff q) := by
  have hs := h.sm hm
  have := F30_l1_spec hm q now hs.b hb.asc q.Backoff.length 1099511627776 0 q (by omega) (by have := hs.b; omega) h
    (fun x hx => one_of_mem h.one (.inr (.inr (by simpa using hx)))) (fun x hx => hb.bw x (by simpa using hx)) (fun k => by rw [List.drop_zero]; have := h.one k; unfold cq at this; omega)
  rw [List.drop_zero, show ((0 : Nat) : Int) = 0 from rfl] at this
  unfold F30
  rw [this]; rfl

theorem F28_l12_spec (t : (List W) × (List W) × (List W) × (List W)) (at_ : Int) (k0 : ByteArray) (hb : t.2.2.2.length ≤ 1000000) : ∀ (n k i : Nat), t.2.2.2.length = i + n → n < k → F28_l12 t at_ k0 k (i : Int) = some (((i + pl ltT ⟨k0, at_⟩ (t.2.2.2.drop i) : Nat)) : Int)
  | _, 0, i, _, h => by omega
  | 0, k + 1, i, h, hk => by
    rw [F28_l12, if_neg (by omega), List.drop_of_length_le (by omega)]; rfl
  | n + 1, k + 1, i, h, hk => by
    have hi : i < t.2.2.2.length := by omega
    have ih := F28_l12_spec t at_ k0 hb n k (i + 1) (by omega) (by omega)
    have e1 : IntKind.i64.wrap ((i : Int) + 1) = ((i + 1 : Nat) : Int) := by rw [wrapI (by omega) (by omega)]; omega
    have e2 : (if t.2.2.2[i].At < at_ then some true else (if t.2.2.2[i].At = at_ then some (Op.bytesLess t.2.2.2[i].Key.toList k0.toList) else some false)) = some (ltT t.2.2.2[i] ⟨k0, at_⟩) := by
      unfold ltT
      by_cases c1 : t.2.2.2[i].At < at_
      · rw [if_pos c1]; simp [c1]
      · rw [if_neg c1]
        by_cases c2 : t.2.2.2[i].At = at_
        · rw [if_pos c2, bl_lt]; simp [c2]
        · rw [if_neg c2]; simp [c1, c2]
    rw [F28_l12, if_pos (by omega), rdI_at hi]
    simp only [Option.bind_some]
    rw [e2, Option.bind_some, List.drop_eq_getElem_cons hi, pl]
    by_cases h1 : ltT t.2.2.2[i] ⟨k0, at_⟩ = true
    · rw [if_pos h1, if_pos h1, e1, ih]; congr 2; omega
    · rw [if_neg h1, if_neg h1]; rfl
theorem cm_pos {n : Int} (h : 0 ≤ n) : cm n = if 1000000000000 < n then 1000000000000 else n := by
  unfold cm; rw [if_neg (by omega : ¬ n < 0)]
theorem F28_spec {q : Q} {n : Nat} (hn : n ≤ 62) (h : Inv q n) (k : ByteArray) (p now : Int) : F28 q k p now = some (tup (retQ k p now q)) := by
  have hs := h.sm (by omega)
  have hl := look_bd (k := k) h.ra
  have hd := dl_bd (look k q.Retries + 1)
  have hc := cm_bd now
  have e0 : (if 0 ≤ (if fi k q.Retries < q.Retries.length then (fi k q.Retries : Int) else -1) then (rdI q.Retries (if fi k q.Retries < q.Retries.length then (fi k q.Retries : Int) else -1)).bind fun y5 => some (IntKind.i64.wrap (y5.At + 1)) else some 1) = some (look k q.Retries + 1) := by
    by_cases hf : fi k q.Retries < q.Retries.length
    · obtain ⟨y, h1, h2⟩ := fi_at k hf
      have e := look_at h1
      rw [if_pos hf, if_pos (by omega), rdI_nat, h1, Option.bind_some, wrapI (by omega) (by omega), e]
    · have e : look k q.Retries = 0 := by unfold look; rw [List.getElem?_eq_none (by omega)]
      rw [if_neg hf, if_neg (by omega), e]; rfl
  have e2 : IntKind.i64.wrap (cm now + dl (look k q.Retries + 1)) = cm now + dl (look k q.Retries + 1) := wrapI (by omega) (by omega)
  have e3 : cm (cm now + dl (look k q.Retries + 1)) = atQ k now q := by
    unfold atQ
    exact cm_pos (by omega)
  unfold F28
  rw [F45_spec k hs, Option.bind_some, F44_spec _ _ hs.r, Option.bind_some, e0, Option.bind_some, if_neg (by omega)]
  simp only [Option.bind_some]
  rw [F47_spec _ _ hs.r, Option.bind_some, F48_spec, Option.bind_some, F49_spec _ (by omega) (by omega), Option.bind_some, e2, F48_spec, Option.bind_some, e3]
  have hfb := flt_len k q.Backoff
  have hfw := flt_len k q.Waiting
  have hsb := hs.b
  have hsw := hs.w
  have := F28_l12_spec (flt k q.Waiting, flt k q.Active, flt k q.Stuck, flt k q.Backoff) (atQ k now q) k (by show (flt k q.Backoff).length ≤ _; omega) (flt k q.Backoff).length 1099511627776 0 (by simp) (by omega)
  rw [show ((0 : Nat) : Int) = 0 from rfl] at this
  rw [this]
  simp only [Option.bind_some, List.drop_zero, Nat.zero_add]
  rw [pl_congr (le' := leT) (fun y hy => ltT_leT (flt_ne k _ y hy)), F46_spec _ _ _ (pl_le ..) (by omega), ← insW_pl, Option.bind_some, F47_spec _ _ (by omega), Option.bind_some]
  have e5 : flt k (flt k q.Waiting) = flt k q.Waiting := flt_of_ct (ct_flt_self k _)
  show some (insW leK ⟨k, p⟩ (flt k (flt k q.Waiting)), _, _, _, _) = _
  rw [e5]; rfl
theorem F12_spec {q : Q} {n : Nat} (hn : n ≤ 62) (h : Inv q n) (hb : BI q) (a : Act) : F12 q a = some (tup8 (dq a q) (dk a q) (db a q)) := by
  have hs := h.sm (by omega)
  unfold F12 dq dk db
  by_cases h0 : a.Kind = 0
  · rw [if_pos h0, F25_spec (by omega) h, if_pos h0, if_neg (by omega), if_neg (by omega)]
    obtain ⟨_, r2, r3⟩ := add_rest a.Key a.Priority q
    simp only [Option.bind_some, tup4, tup8, r2, r3]
  rw [if_neg h0, if_neg h0]
  by_cases h1 : a.Kind = 1
  · rw [if_pos h1, if_pos h1, if_pos h1, if_pos h1]
    unfold F26
    cases hq : q.Active with
    | nil =>
      have e1 : popQ q = q := by unfold popQ; rw [hq]
      have e2 : popB q = false := by unfold popB; rw [hq]
      have e3 : popK q = ⟨#[]⟩ := by unfold popK; rw [hq]
      rw [e1, e2, e3]; simp [tup8, hq]
    | cons y l =>
      have e1 : popQ q = ⟨q.Waiting, l, q.Stuck, q.Backoff, q.Retries, q.Cycle + 1⟩ := by unfold popQ; rw [hq]
      have e2 : popB q = true := by unfold popB; rw [hq]
      have e3 : popK q = y.Key := by unfold popK; rw [hq]
      have ha := hs.a
      rw [hq] at ha
      simp only [List.length_cons] at ha ⊢
      rw [e1, e2, e3, if_neg (by omega)]
      have e4 : rdI (y :: l) 0 = some y := rfl
      have e5 : slI (y :: l) 1 ((l.length + 1 : Nat) : Int) = some l := by
        have := slI_t (xs := y :: l) (l := 1) (h := l.length + 1) (by omega) (by simp)
        simpa using this
      have hc := h.c
      rw [e4, e5]
      simp only [Option.bind_some]
      rw [wrapI (by omega) (by omega)]; rfl
  rw [if_neg h1, if_neg h1, if_neg h1, if_neg h1]
  by_cases h2 : a.Kind = 2
  · rw [if_pos h2, if_pos h2]
    unfold F27
    rw [F45_spec _ hs]
    simp only [Option.bind_some]
    rw [F46_spec _ _ _ (Nat.le_refl _) (by have := flt_len a.Key q.Stuck; have := hs.s; omega)]
    simp only [Option.bind_some, List.take_length, List.drop_length]; rfl
  rw [if_neg h2, if_neg h2]
  by_cases h3 : a.Kind = 3
  · rw [if_pos h3, if_pos h3, F28_spec hn h]; rfl
  rw [if_neg h3, if_neg h3]
  by_cases h4 : a.Kind = 4
  · rw [if_pos h4, if_pos h4]
    unfold F29
    rw [ck_t ⟨Nat.zero_le _, by have := hs.s; omega⟩, Option.bind_some, F29_l1_spec (by omega) q.Stuck 0 q h (fun x hx => one_of_mem h.one (.inr (.inl hx)))]; rfl
  rw [if_neg h4, if_neg h4]
  by_cases h5 : a.Kind = 5
  · rw [if_pos h5, if_pos h5, F30_spec (by omega) h hb]; rfl
  rw [if_neg h5, if_neg h5]
  unfold F31
  rw [F45_spec _ hs, Option.bind_some, F50_spec _ _ hs.r]; rfl

theorem F32_l2_spec (b : List W) (a : List W) (hl : a.length = b.length) : ∀ n i, a.length = i + n → F32_l2 b (a.drop i) i = some (if a.drop i = b.drop i then .inr () else .inl false)
  | 0, i, h => by
    rw [List.drop_of_length_le (by omega), List.drop_of_length_le (by omega)]; rfl
  | n + 1, i, h => by
    have hi : i < a.length := by omega
    have hi' : i < b.length := by omega
    have ih := F32_l2_spec b a hl n (i + 1) (by omega)
    rw [List.drop_eq_getElem_cons hi, F32_l2, rdI_at hi', ih, List.drop_eq_getElem_cons hi']
    simp only [Option.bind_some, List.cons.injEq]
    by_cases he : a[i] = b[i]
    · rw [he, if_neg (by simp)]; simp
    · rw [if_pos, if_neg (by simp [he])]; rfl
      intro ⟨h1, h2⟩
      apply he
      cases ha : a[i]; cases hb : b[i]
      simp_all
theorem F32_same (a : List W) (hb : a.length ≤ 1000000) : F32 a a = some true := by
  unfold F32
  rw [if_neg (by omega), ck_t ⟨Nat.zero_le _, by omega⟩]
  have := F32_l2_spec a a rfl a.length 0 (by omega)
  rw [List.drop_zero] at this
  simp only [Option.bind_some, this]
  simp
theorem F13_same {q : Q} (h : Sm q 1000000) : F13 q q = some true := by
  unfold F13
  rw [F32_same _ h.w, F32_same _ h.a, F32_same _ h.s, F32_same _ h.b, F32_same _ h.r]
  simp
theorem F3_l6_spec : ∀ (l : List Act) (i : Nat) (q : Q) (n : Nat), n + l.length ≤ 61 → Inv q n → BI q → F3_l6 l i q q = some (.inr ())
  | [], i, q, n, _, _, _ => rfl
  | a :: l, i, q, n, hn, h, hb => by
    simp only [List.length_cons] at hn
    obtain ⟨g1, _⟩ := dq_inv (by omega) h a
    have ih := F3_l6_spec l (i + 1) (dq a q) (n + 1) (by omega) g1 (bi_dq a hb)
    have e : (⟨q.Waiting, q.Active, q.Stuck, q.Backoff, q.Retries, q.Cycle⟩ : SchedQueue) = q := rfl
    rw [F3_l6, e, F11_spec (by omega) h a, Option.bind_some, F12_spec (by omega) h hb a, Option.bind_some]
    show (((F13 (dq a q) (dq a q)).bind fun t11 => (if nb t11 = true then some true else (if ¬ (dk a q = dk a q) then some true else some (((db a q == db a q) != true))))).bind fun o10 => (if o10 = true then (some false).map Sum.inl else F3_l6 l (i + 1) (dq a q) (dq a q))) = _
    rw [F13_same (g1.sm (by omega)), ih]
    simp [nb]
theorem SchedqueuePlays_pure : SchedqueuePlays.Pure := by
  intro l _ _
  unfold F3
  rcases F7_spec l with h | ⟨h, hl⟩
  · rw [h]; simp [nb, F8_true]
  rw [h]
  simp only [Option.bind_some]
  rw [if_neg (by simp [nb]), F8_true]
  simp only [F9, F10, Option.bind_some]
  rw [ck_t ⟨Nat.zero_le _, by omega⟩, Option.bind_some, F3_l6_spec l 0 _ 0 (by omega) inv_new ⟨trivial, fun x hx => by cases hx⟩]; rfl
end Go.Proofs.Ytdpbdbclninjaaa
