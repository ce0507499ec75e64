/- The plain laws, part 6. -/
import Derived.Test.YtpgonamdmlgifaaQ5
set_option linter.unusedVariables false
set_option linter.unusedSimpArgs false
namespace Go.Proofs.Ytpgonamdmlgifaa
open Go Go.Fw
set_option maxRecDepth 100000

/-! Advance. -/
def setL (l : List W) (q : Q) : Q := ⟨q.Ready, q.Working, q.Dirty, l, q.Retries⟩
def foldA : List W → Q → Q
  | [], q => q
  | x :: xs, q => foldA xs (addS x.Key q)
def due (now : Int) : List W → List W
  | [] => []
  | x :: l => if x.At ≤ now then x :: due now l else []
def rest (now : Int) : List W → List W
  | [] => []
  | x :: l => if x.At ≤ now then rest now l else x :: l
def advS (now : Int) (q : Q) : Q := foldA (due now q.Later) (setL (rest now q.Later) q)
theorem due_rest (now : Int) : ∀ l, due now l ++ rest now l = l
  | [] => rfl
  | x :: l => by unfold due rest; split <;> simp [due_rest now l]
theorem due_len (now : Int) (l : List W) : (due now l).length + (rest now l).length = l.length := by
  have := congrArg List.length (due_rest now l); simpa using this
theorem due_take (now : Int) (l : List W) : l.take (due now l).length = due now l := by
  have := congrArg (List.take (due now l).length) (due_rest now l)
  rw [List.take_left'] at this
  · exact this.symm
  · rfl
theorem rest_drop (now : Int) (l : List W) : l.drop (due now l).length = rest now l := by
  have := congrArg (List.drop (due now l).length) (due_rest now l)
  rw [List.drop_left'] at this
  · exact this.symm
  · rfl
theorem rest_sub (now : Int) (l : List W) : (rest now l).Sublist l := by rw [← rest_drop]; exact List.drop_sublist ..
theorem add_setL (k : ByteArray) (l : List W) (q : Q) : setL l (addS k q) = addS k (setL l q) := by
  unfold addS setL
  by_cases h1 : k ∈ q.Working
  · rw [if_pos h1]; simp only [h1, if_true]
  · rw [if_neg h1]; simp only [h1, if_false]
    by_cases h2 : k ∈ q.Ready
    · rw [if_pos h2, if_pos h2]
    · rw [if_neg h2, if_neg h2]
theorem foldA_setL (l : List W) : ∀ (xs : List W) (q : Q), setL l (foldA xs q) = foldA xs (setL l q)
  | [], _ => rfl
  | x :: xs, q => by rw [foldA, foldA, foldA_setL l xs, add_setL]
theorem inv_fold : ∀ (xs : List W) (q : Q) (n : Nat), Inv q n → Inv (foldA xs q) (n + xs.length)
  | [], _, _, h => h
  | x :: xs, q, n, h => by
    have := inv_fold xs _ _ (inv_add x.Key h)
    exact this.mono (by simp; omega)
theorem fold_W : ∀ (xs : List W) (q : Q), (foldA xs q).Working = q.Working
  | [], _ => rfl
  | x :: xs, q => by rw [foldA, fold_W xs, add_W]
theorem inv_setL {now : Int} {q : Q} {n : Nat} (h : Inv q n) : Inv (setL (rest now q.Later) q) (n - (due now q.Later).length) := by
  have hl := h.len
  have hd := due_len now q.Later
  have hs := rest_sub now q.Later
  exact ⟨by simp only [setL]; omega, h.sW, h.sD, h.sL.sublist hs, List.Pairwise.sublist hs h.uL, fun x hx => h.bL x (hs.subset hx), h.sT, h.bT, h.nR, h.dR, h.dW⟩
theorem inv_adv (now : Int) {q : Q} {n : Nat} (h : Inv q n) : Inv (advS now q) n := by
  have hl := h.len
  have hd := due_len now q.Later
  exact (inv_fold (due now q.Later) _ _ (inv_setL h)).mono (by omega)
theorem F20_l2_spec (t : (List ByteArray) × (List ByteArray) × (List ByteArray) × (List WorkItem) × (List WorkItem)) (now : Int) (hb : t.2.2.2.1.length ≤ 1000000) : ∀ (m k i : Nat), t.2.2.2.1.length = i + m → m < k → F20_l2 t now k (i : Int) = some ((i + (due now (t.2.2.2.1.drop i)).length : Nat) : Int)
  | _, 0, i, _, h => by omega
  | 0, k + 1, i, h, _ => by
    rw [F20_l2, if_neg (by omega), List.drop_of_length_le (by omega)]; rfl
  | m + 1, k + 1, i, h, hk => by
    have hi : i < t.2.2.2.1.length := by omega
    rw [F20_l2, if_pos (by omega), rdI_at hi, List.drop_eq_getElem_cons hi]
    simp only [Option.bind_some, decide_eq_true_eq, due]
    by_cases hc : t.2.2.2.1[i].At ≤ now
    · rw [if_pos hc, if_pos hc, wrapN (by omega), F20_l2_spec t now hb m k (i + 1) (by omega) (by omega)]
      simp; omega
    · rw [if_neg hc, if_neg hc]; rfl
theorem F20_l10_spec (s : List W) : ∀ (xs : List W) (i : Nat) (q : Q) (n : Nat), s.drop i = xs → Inv q n → n + xs.length ≤ 800000 → F20_l10 s xs i q.Ready q.Working q.Dirty q.Later q.Retries = some (tup (foldA xs q))
  | [], i, q, n, _, _, _ => rfl
  | x :: xs, i, q, n, hd, h, hn => by
    simp only [List.length_cons] at hn
    have hi : s[i]? = some x := by
      have := congrArg (·[0]?) hd
      simpa using this
    have hd2 : s.drop (i + 1) = xs := by
      have := congrArg (List.drop 1) hd
      simpa [List.drop_drop, Nat.add_comm] using this
    rw [F20_l10, rdI_nat, hi]
    simp only [Option.bind_some]
    have e : (⟨q.Ready, q.Working, q.Dirty, q.Later, q.Retries⟩ : WorkQueue) = q := rfl
    rw [e, F15_spec h (by omega)]
    simp only [Option.bind_some]
    exact F20_l10_spec s xs (i + 1) (addS x.Key q) (n + 1) hd2 (inv_add _ h) (by omega)
theorem F20_spec {q : Q} {n : Nat} (h : Inv q n) (hn : n ≤ 400000) (now : Int) : F20 q now = some (tup (advS now q)) := by
  have hs := h.sm (by omega)
  have hl := h.len
  have hd := due_len now q.Later
  unfold F20
  rw [F32_spec hs]
  simp only [Option.bind_some]
  have h2 := F20_l2_spec (tup q) now hs.l q.Later.length 1099511627776 0 (by simp [tup]) (by omega)
  simp only [tup, List.drop_zero, Nat.zero_add] at h2
  have e0 : ((0 : Nat) : Int) = 0 := rfl
  rw [e0] at h2
  simp only [tup]
  rw [h2]
  simp only [Option.bind_some]
  rw [show slI q.Later 0 ((due now q.Later).length : Int) = some (due now q.Later) by
    have := slI_t (xs := q.Later) (l := 0) (h := (due now q.Later).length) (by omega) (by omega)
    rw [e0] at this; rw [this]; simp [due_take]]
  simp only [Option.bind_some]
  rw [slI_t (by omega) (by omega)]
  simp only [Option.bind_some]
  rw [List.take_of_length_le (by simp), rest_drop, cl_t (by omega)]
  simp only [Option.bind_some]
  rw [ck_t ⟨Nat.zero_le _, by omega⟩]
  simp only [Option.bind_some]
  have := F20_l10_spec (due now q.Later) (due now q.Later) 0 (setL (rest now q.Later) q) _ (by simp) (inv_setL h) (by omega)
  simp only [setL] at this
  rw [this]; rfl
theorem F29_l2_spec (now : Int) : ∀ (l : List W) (k : Nat) (q : Q) (n : Nat), l.length < k → Inv (setL l q) n → n ≤ 400000 → F29_l2 now k q.Ready q.Working q.Dirty l q.Retries = some (tup (foldA (due now l) (setL (rest now l) q)))
  | _, 0, q, n, h, _, _ => by omega
  | [], k + 1, q, n, _, _, _ => by
    rw [F29_l2, if_neg (by simp)]; rfl
  | x :: l, k + 1, q, n, hk, h, hn => by
    simp only [List.length_cons] at hk
    have hll : (x :: l).length ≤ 1000000 := (h.sm (by omega)).l
    simp only [List.length_cons] at hll
    rw [F29_l2, if_pos (by simp only [List.length_cons]; omega), show (0 : Int) = ((0 : Nat) : Int) from rfl, rdI_nat]
    simp only [List.getElem?_cons_zero, Option.bind_some, decide_eq_true_eq]
    unfold due rest
    by_cases hc : x.At ≤ now
    · rw [if_pos hc, if_pos hc, if_pos hc, show (1 : Int) = ((1 : Nat) : Int) from rfl, slI_t (by simp) (by simp)]
      simp only [Option.bind_some, List.length_cons, List.drop_succ_cons, List.drop_zero, Nat.add_sub_cancel, List.take_length]
      have hi : Inv (setL l q) n := by
        have hlen := h.len
        simp only [setL, List.length_cons] at hlen
        exact ⟨by simp only [setL]; omega, h.sW, h.sD, (List.pairwise_cons.1 h.sL).2, (List.pairwise_cons.1 h.uL).2, fun z hz => h.bL z (List.mem_cons_of_mem _ hz), h.sT, h.bT, h.nR, h.dR, h.dW⟩
      have hi2 : Inv (setL l q) (n - 1) := by
        have hlen := h.len
        simp only [setL, List.length_cons] at hlen
        exact ⟨by simp only [setL]; omega, hi.sW, hi.sD, hi.sL, hi.uL, hi.bL, hi.sT, hi.bT, hi.nR, hi.dR, hi.dW⟩
      have e : (⟨q.Ready, q.Working, q.Dirty, l, q.Retries⟩ : WorkQueue) = setL l q := rfl
      rw [e, F23_spec hi (by omega)]
      simp only [Option.bind_some]
      have h3 := inv_add x.Key hi2
      have hn0 : 1 ≤ n := by have hlen := h.len; simp only [setL, List.length_cons] at hlen; omega
      rw [Nat.sub_add_cancel hn0] at h3
      have e2 : setL l (addS x.Key (setL l q)) = addS x.Key (setL l q) := by rw [add_setL]; rfl
      have ih := F29_l2_spec now l k (addS x.Key (setL l q)) n (by omega) (by rw [e2]; exact h3) hn
      have e3 : (addS x.Key (setL l q)).Later = l := by rw [add_L]; rfl
      simp only [tup, e3] at ih ⊢
      rw [ih, foldA, add_setL]; rfl
    · rw [if_neg hc, if_neg hc, if_neg hc]; rfl
theorem F29_spec {q : Q} {n : Nat} (h : Inv q n) (hn : n ≤ 400000) (now : Int) : F29 q now = some (tup (advS now q)) := by
  have hs := h.sm (by omega)
  unfold F29
  rw [F51_spec hs]
  simp only [Option.bind_some, tup]
  have := hs.l
  rw [F29_l2_spec now q.Later _ q n (by omega) h hn]; rfl

/-! One call. -/
theorem op_spec {q : Q} {n : Nat} (h : Inv q n) (hn : n ≤ 400000) (o : Op) : ∃ q' k b, F11 q o = some (tup7 q' k b) ∧ F12 q o = some (tup7 q' k b) ∧ Inv q' (n + 2) ∧
    (b = true → k ∉ q.Working ∧ k ∈ q'.Working) ∧ (∀ z ∈ q.Working, (o.Kind.tmod 7 = 3 → z ≠ o.Key) → z ∈ q'.Working) := by
  unfold F11 F12
  by_cases h0 : o.Kind.tmod 7 = 0
  · rw [if_pos h0, if_pos h0, F15_spec h (by omega), F23_spec h (by omega)]
    exact ⟨addS o.Key q, ⟨#[]⟩, false, rfl, rfl, (inv_add _ h).mono (by omega), fun e => (by cases e), fun z hz _ => by rw [add_W]; exact hz⟩
  rw [if_neg h0, if_neg h0]
  by_cases h1 : o.Kind.tmod 7 = 1
  · rw [if_pos h1, if_pos h1, F21_spec h (by omega), F24_spec h (by omega)]
    exact ⟨afterS o.Key o.N q, ⟨#[]⟩, false, rfl, rfl, (inv_after _ _ h).mono (by omega), fun e => (by cases e), fun z hz _ => hz⟩
  rw [if_neg h1, if_neg h1]
  by_cases h2 : o.Kind.tmod 7 = 2
  · rw [if_pos h2, if_pos h2, F17_spec h (by omega), F25_spec h (by omega)]
    refine ⟨takeS q, takeK q, takeB q, rfl, rfl, (inv_take h).mono (by omega), ?_, ?_⟩
    · have hd := h.dR
      unfold takeS takeK takeB
      cases hR : q.Ready with
      | nil => intro e; cases e
      | cons k r => intro _; rw [hR] at hd; exact ⟨hd k (List.mem_cons_self ..), putS_mem.2 (.inl rfl)⟩
    · intro z hz _
      unfold takeS
      cases hR : q.Ready with
      | nil => exact hz
      | cons k r => exact putS_mem.2 (.inr hz)
  rw [if_neg h2, if_neg h2]
  by_cases h3 : o.Kind.tmod 7 = 3
  · rw [if_pos h3, if_pos h3, F16_spec h (by omega), F26_spec h (by omega)]
    exact ⟨doneS o.Key q, ⟨#[]⟩, false, rfl, rfl, (inv_done _ h).mono (by omega), fun e => (by cases e), fun z hz hk => done_W.2 ⟨hz, hk h3⟩⟩
  rw [if_neg h3, if_neg h3]
  by_cases h4 : o.Kind.tmod 7 = 4
  · have hc := cnt_r (k := o.Key) h.bT
    obtain ⟨d, d1, d2, d3, d4⟩ := delays o.Base o.Limit (cnt o.Key q.Retries) hc.1 hc.2
    rw [if_pos h4, if_pos h4, F19_spec h (by omega) o.Key o.N o.Base o.Limit d1 d3 d4, F27_spec h (by omega) o.Key o.N o.Base o.Limit d2 d3 d4]
    exact ⟨afterS o.Key (clT o.N + d) (retS o.Key q), ⟨#[]⟩, false, rfl, rfl, inv_after _ _ (inv_ret _ h), fun e => (by cases e), fun z hz _ => hz⟩
  rw [if_neg h4, if_neg h4]
  by_cases h5 : o.Kind.tmod 7 = 5
  · rw [if_pos h5, if_pos h5, F22_spec h (by omega), F28_spec h (by omega)]
    exact ⟨forgetS o.Key q, ⟨#[]⟩, false, rfl, rfl, (inv_forget _ h).mono (by omega), fun e => (by cases e), fun z hz _ => hz⟩
  rw [if_neg h5, if_neg h5, F20_spec h (by omega), F29_spec h (by omega)]
  exact ⟨advS o.N q, ⟨#[]⟩, false, rfl, rfl, (inv_adv _ h).mono (by omega), fun e => (by cases e), fun z hz _ => by show z ∈ (foldA _ _).Working; rw [fold_W]; exact hz⟩

/-! The laws. -/
theorem F8_true : F8 = some true := by kernel_rfl
theorem F7_l1_spec : ∀ (l : List Op) (i : Nat), F7_l1 l i = some (.inr ()) ∨ F7_l1 l i = some (.inl true)
  | [], _ => .inl rfl
  | o :: l, i => by
    rw [F7_l1]
    split
    · exact .inr rfl
    · exact F7_l1_spec l (i + 1)
theorem F7_spec (l : List Op) (h : l.length ≤ 4000000) : F7 l = some true ∨ F7 l = some false ∧ l.length ≤ 60 := by
  unfold F7
  rw [ck_t ⟨Nat.zero_le _, by omega⟩, Option.bind_some]
  rcases F7_l1_spec l 0 with e | e
  · rw [e]
    simp only [Option.bind_some]
    by_cases hl : 60 < (l.length : Int)
    · simp [hl]
    · right; simp only [hl, decide_false, true_and]; omega
  · rw [e]; exact .inl rfl
theorem wlen {l : List Op} (h : (wL wOp) l ≤ 1048576) : l.length ≤ 1048576 := by
  have := wsum_le (w := wOp) (fun a => by unfold wOp; omega) l
  unfold wL at h; omega
theorem inv_new : Inv ⟨[], [], [], [], []⟩ 0 := ⟨(by simp), .nil, .nil, .nil, .nil, (fun x hx => by cases hx), .nil, (fun x hx => by cases hx), .nil, (fun x hx => by cases hx), (fun x hx => by cases hx)⟩
theorem F30_l2_spec (b a : List ByteArray) (hl : a.length = b.length) (hab : a = b) : ∀ n i, a.length = i + n → F30_l2 b (a.drop i) i = some (.inr ())
  | 0, i, h => by rw [List.drop_of_length_le (by omega)]; rfl
  | n + 1, i, h => by
    have hi : i < a.length := by omega
    rw [List.drop_eq_getElem_cons hi, F30_l2]
    subst hab
    rw [rdI_at hi]
    simp only [Option.bind_some, not_true_eq_false, if_false]
    exact F30_l2_spec a a rfl rfl n (i + 1) (by omega)
theorem F30_same (a : List ByteArray) (hb : a.length ≤ 1000000) : F30 a a = some true := by
  unfold F30
  rw [if_neg (by simp), ck_t ⟨Nat.zero_le _, by omega⟩]
  have := F30_l2_spec a a rfl rfl a.length 0 (by omega)
  rw [List.drop_zero] at this
  simp only [Option.bind_some, this]
theorem F31_l2_spec (a : List W) : ∀ n i, a.length = i + n → F31_l2 a (a.drop i) i = some (.inr ())
  | 0, i, h => by rw [List.drop_of_length_le (by omega)]; rfl
  | n + 1, i, h => by
    have hi : i < a.length := by omega
    rw [List.drop_eq_getElem_cons hi, F31_l2, rdI_at hi]
    simp only [Option.bind_some, and_self, not_true_eq_false, if_false]
    exact F31_l2_spec a n (i + 1) (by omega)
theorem F31_same (a : List W) (hb : a.length ≤ 1000000) : F31 a a = some true := by
  unfold F31
  rw [if_neg (by simp), ck_t ⟨Nat.zero_le _, by omega⟩]
  have := F31_l2_spec a a.length 0 (by omega)
  rw [List.drop_zero] at this
  simp only [Option.bind_some, this]
theorem F13_same {q : Q} (h : Sm q) : F13 q q = some true := by
  unfold F13
  rw [F30_same _ h.r, F30_same _ h.w, F30_same _ h.d, F31_same _ h.l, F31_same _ h.t]
  simp
theorem F3_l6_spec : ∀ (l : List Op) (i : Nat) (q : Q) (n : Nat), n + 2 * l.length ≤ 200 → Inv q n → F3_l6 l i q.Ready q.Working q.Dirty q.Later q.Retries q.Ready q.Working q.Dirty q.Later q.Retries = some (.inr ())
  | [], i, q, n, _, _ => rfl
  | o :: l, i, q, n, hn, h => by
    simp only [List.length_cons] at hn
    obtain ⟨q', k, b, e1, e2, h2, _, _⟩ := op_spec h (by omega) o
    have ih := F3_l6_spec l (i + 1) q' (n + 2) (by omega) h2
    have e : (⟨q.Ready, q.Working, q.Dirty, q.Later, q.Retries⟩ : WorkQueue) = q := rfl
    rw [F3_l6, e, e1, Option.bind_some, e2, Option.bind_some]
    show (((F13 q' q').bind fun t11 => (if (nb t11) = true then some true else (if ¬ (k = k) then some true else (if (((b == b) != true)) = true then some true else (F13 q q).bind fun t15 => some (nb t15))))).bind fun o10 => (if o10 = true then (some false).map Sum.inl else F3_l6 l (i + 1) q'.Ready q'.Working q'.Dirty q'.Later q'.Retries q'.Ready q'.Working q'.Dirty q'.Later q'.Retries)) = _
    rw [F13_same (h2.sm (by omega)), F13_same (h.sm (by omega)), ih]
    simp [nb]
theorem WorkqueuePlays_pure : WorkqueuePlays.Pure := by
  intro l _ hw
  have hl := wlen (l := l) (by omega)
  unfold F3
  rcases F7_spec l (by omega) with h | ⟨h, hl⟩
  · rw [h]; simp [F8_true]
  rw [h]
  simp only [Option.bind_some, Bool.false_eq_true, if_false, F9, F10, F8_true]
  rw [ck_t ⟨Nat.zero_le _, by omega⟩, Option.bind_some]
  have := F3_l6_spec l 0 _ 0 (by omega) inv_new
  simp only at this
  rw [this]; rfl

/-! The invariant. -/
theorem F4_l5_spec : ∀ (l : List Op) (i : Nat) (q : Q) (n : Nat), n + 2 * l.length ≤ 200 → Inv q n → ∃ q', F4_l5 l i q.Ready q.Working q.Dirty q.Later q.Retries = some q' ∧ Inv q' (n + 2 * l.length)
  | [], i, q, n, _, h => ⟨q, rfl, h⟩
  | o :: l, i, q, n, hn, h => by
    simp only [List.length_cons] at hn
    obtain ⟨q', k, b, e1, e2, h2, _, _⟩ := op_spec h (by omega) o
    obtain ⟨q2, g1, g2⟩ := F4_l5_spec l (i + 1) q' (n + 2) (by omega) h2
    have e : (⟨q.Ready, q.Working, q.Dirty, q.Later, q.Retries⟩ : WorkQueue) = q := rfl
    rw [F4_l5, e, e1, Option.bind_some]
    exact ⟨q2, g1, g2.mono (by simp; omega)⟩
theorem F4_l9_spec {q : Q} {n : Nat} (h : Inv q n) (hn : n ≤ 200) : ∀ m i, q.Ready.length = i + m → F4_l9 q (q.Ready.drop i) i = some (.inr ())
  | 0, i, hi => by rw [List.drop_of_length_le (by omega)]; rfl
  | m + 1, i, hm => by
    have hs := h.sm (by omega)
    have hi : i < q.Ready.length := by omega
    rw [List.drop_eq_getElem_cons hi, F4_l9]
    rw [show slI q.Ready 0 (i : Int) = some (q.Ready.take i) by
      have := slI_t (xs := q.Ready) (l := 0) (h := i) (by omega) (by omega)
      rw [show ((0 : Nat) : Int) = 0 from rfl] at this; rw [this]; simp]
    simp only [Option.bind_some]
    rw [rdI_at hi]
    simp only [Option.bind_some]
    have hr := hs.r
    rw [F14_spec _ _ (by simp; omega)]
    simp only [Option.bind_some]
    have h1 : q.Ready[i] ∉ q.Ready.take i := by
      intro hm
      obtain ⟨j, hj, e⟩ := List.mem_take_iff_getElem.1 hm
      exact List.pairwise_iff_getElem.1 h.nR j i (by omega) hi (by omega) e
    simp only [h1, decide_false, Bool.false_eq_true, if_false]
    rw [F14_spec _ _ hs.w]
    have h2 : q.Ready[i] ∉ q.Working := h.dR _ (List.getElem_mem hi)
    simp only [h2, decide_false, Option.bind_some, Bool.false_eq_true, if_false]
    exact F4_l9_spec h hn m (i + 1) (by omega)
theorem F4_l19_spec {q : Q} {n : Nat} (h : Inv q n) (hn : n ≤ 200) : ∀ m i, q.Dirty.length = i + m → F4_l19 q (q.Dirty.drop i) i = some (.inr ())
  | 0, i, hi => by rw [List.drop_of_length_le (by omega)]; rfl
  | m + 1, i, hm => by
    have hs := h.sm (by omega)
    have hi : i < q.Dirty.length := by omega
    have hd := hs.d
    rw [List.drop_eq_getElem_cons hi, F4_l19, rdI_at hi]
    simp only [Option.bind_some]
    rw [F14_spec _ _ hs.w]
    have h2 : q.Dirty[i] ∈ q.Working := h.dW _ (List.getElem_mem hi)
    simp only [h2, decide_true, Option.bind_some, nb_not, Bool.not_true, Bool.false_eq_true, if_false]
    by_cases h0 : 0 < (i : Int)
    · have e : IntKind.i64.wrap ((i : Int) - 1) = ((i - 1 : Nat) : Int) := by rw [wrapI (by omega) (by omega)]; omega
      rw [if_pos h0, e, rdI_at (by omega : i - 1 < q.Dirty.length)]
      have hlt : lt q.Dirty[i - 1] q.Dirty[i] := List.pairwise_iff_getElem.1 h.sD (i - 1) i (by omega) hi (by omega)
      simp only [Option.bind_some, bl_le, hlt, not_true_eq_false, decide_false, Bool.false_eq_true, if_false]
      exact F4_l19_spec h hn m (i + 1) (by omega)
    · rw [if_neg h0]
      simp only [Option.bind_some, Bool.false_eq_true, if_false]
      exact F4_l19_spec h hn m (i + 1) (by omega)
theorem F4_l29_spec {q : Q} {n : Nat} (h : Inv q n) (hn : n ≤ 200) : ∀ m i k, q.Working.length + 1 ≤ i + m → m < k → 1 ≤ i → i ≤ 1000001 → F4_l29 q k (i : Int) = some (.inr ())
  | _, _, 0, _, h, _, _ => by omega
  | 0, i, k + 1, hm, _, _, _ => by rw [F4_l29, if_neg (by omega)]
  | m + 1, i, k + 1, hm, hk, h1, hi2 => by
    have hs := h.sm (by omega)
    have hw := hs.w
    rw [F4_l29]
    by_cases hi : i < q.Working.length
    · have e : IntKind.i64.wrap ((i : Int) - 1) = ((i - 1 : Nat) : Int) := by rw [wrapI (by omega) (by omega)]; omega
      rw [if_pos (by omega), rdI_at hi, e, rdI_at (by omega : i - 1 < q.Working.length)]
      have hlt : lt q.Working[i - 1] q.Working[i] := List.pairwise_iff_getElem.1 h.sW (i - 1) i (by omega) hi (by omega)
      simp only [Option.bind_some, bl_le, hlt, not_true_eq_false, decide_false, Bool.false_eq_true, if_false]
      rw [wrapN (by omega)]
      exact F4_l29_spec h hn m (i + 1) k (by omega) (by omega) (by omega) (by omega)
    · rw [if_neg (by omega)]
theorem WorkqueueInvariant_pure : WorkqueueInvariant.Pure := by
  intro l _ hw
  have hl := wlen (l := l) (by omega)
  unfold F4
  rcases F7_spec l (by omega) with h | ⟨h, hl⟩
  · rw [h]; simp [F8_true]
  rw [h]
  simp only [Option.bind_some, Bool.false_eq_true, if_false, F9, F8_true]
  rw [ck_t ⟨Nat.zero_le _, by omega⟩, Option.bind_some]
  obtain ⟨q, g1, g2⟩ := F4_l5_spec l 0 _ 0 (by omega) inv_new
  simp only at g1
  have hn : 0 + 2 * l.length ≤ 200 := by omega
  have hs := g2.sm (by omega)
  have hr := hs.r; have hd := hs.d; have hw := hs.w
  rw [g1]
  simp only [Option.bind_some]
  rw [ck_t ⟨Nat.zero_le _, by omega⟩, Option.bind_some]
  have e1 := F4_l9_spec g2 hn q.Ready.length 0 (by omega)
  rw [List.drop_zero] at e1
  rw [e1]
  simp only [Option.bind_some]
  rw [ck_t ⟨Nat.zero_le _, by omega⟩, Option.bind_some]
  have e2 := F4_l19_spec g2 hn q.Dirty.length 0 (by omega)
  rw [List.drop_zero] at e2
  rw [e2]
  simp only [Option.bind_some]
  have e3 := F4_l29_spec g2 hn q.Working.length 1 1099511627776 (by omega) (by omega) (by omega) (by omega)
  rw [show ((1 : Nat) : Int) = 1 from rfl] at e3
  rw [e3]; rfl
end Go.Proofs.Ytpgonamdmlgifaa
