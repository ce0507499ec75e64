/- The plain laws, part 7. -/
import Derived.Test.YtpgonamdmlgifaaQ6
set_option linter.unusedVariables false
set_option linter.unusedSimpArgs false
namespace Go.Proofs.Ytpgonamdmlgifaa
open Go Go.Fw
set_option maxRecDepth 100000

/-! Nothing is lost. -/
theorem rmS_lt {x : ByteArray} : ∀ {l : List ByteArray}, x ∈ l → (rmS x l).length + 1 ≤ l.length
  | [], h => by cases h
  | y :: l, h => by
    by_cases hy : y = x
    · have e : rmS x (y :: l) = rmS x l := by unfold rmS; rw [List.filter_cons_of_neg (by simpa using hy)]
      have := rmS_len x l
      rw [e]; simp; omega
    · have e : rmS x (y :: l) = y :: rmS x l := by unfold rmS; rw [List.filter_cons_of_pos (by simpa using hy)]
      have hx : x ∈ l := by
        rcases List.mem_cons.1 h with h | h
        · exact (hy h.symm).elim
        · exact h
      have := rmS_lt hx
      rw [e]; simp; omega
theorem inv_done2 (k : ByteArray) {q : Q} {n : Nat} (h : Inv q n) : Inv (doneS k q) n := by
  have hl := h.len
  have h2 := inv_done k h
  refine { h2 with len := ?_ }
  unfold doneS
  by_cases hk : k ∈ q.Working
  · have h3 := rmS_lt hk
    rw [if_pos hk]
    by_cases hd : k ∈ q.Dirty
    · have h4 := rmS_lt hd
      rw [if_pos hd]; simp only [List.length_append, List.length_cons, List.length_nil]; omega
    · rw [if_neg hd]; simp only; omega
  · rw [if_neg hk]; exact hl
def foldD : List ByteArray → Q → Q
  | [], q => q
  | x :: xs, q => foldD xs (doneS x q)
theorem inv_foldD : ∀ (xs : List ByteArray) {q : Q} {n : Nat}, Inv q n → Inv (foldD xs q) n
  | [], _, _, h => h
  | x :: xs, _, _, h => inv_foldD xs (inv_done2 x h)
theorem foldD_W {z : ByteArray} : ∀ (xs : List ByteArray) {q : Q}, z ∈ (foldD xs q).Working ↔ z ∈ q.Working ∧ z ∉ xs
  | [], q => by simp [foldD]
  | x :: xs, q => by
    rw [foldD, foldD_W xs, done_W, List.mem_cons]
    exact ⟨fun ⟨⟨a, b⟩, c⟩ => ⟨a, fun h => h.elim b c⟩, fun ⟨a, b⟩ => ⟨⟨a, fun h => b (.inl h)⟩, fun h => b (.inr h)⟩⟩
def In (k : ByteArray) (q : Q) : Prop := k ∈ q.Ready ∨ k ∈ q.Dirty
theorem done_in {k z : ByteArray} {q : Q} {n : Nat} (h : Inv q n) (hz : In z q) : In z (doneS k q) := by
  unfold doneS In at *
  by_cases hk : k ∈ q.Working
  · rw [if_pos hk]
    by_cases hd : k ∈ q.Dirty
    · rw [if_pos hd]
      rcases hz with hz | hz
      · exact .inl (List.mem_append_left _ hz)
      · by_cases e : z = k
        · exact .inl (by rw [e]; exact List.mem_append_right _ (by simp))
        · exact .inr (rmS_mem.2 ⟨hz, e⟩)
    · rw [if_neg hd]; exact hz
  · rw [if_neg hk]; exact hz
theorem foldD_in {z : ByteArray} : ∀ (xs : List ByteArray) {q : Q} {n : Nat}, Inv q n → In z q → In z (foldD xs q)
  | [], _, _, _, h => h
  | x :: xs, _, _, hi, h => foldD_in xs (inv_done2 x hi) (done_in hi h)
theorem add_in (k : ByteArray) (q : Q) : In k (addS k q) := by
  unfold addS In
  by_cases hk : k ∈ q.Working
  · rw [if_pos hk]; exact .inr (putS_mem.2 (.inl rfl))
  · rw [if_neg hk]
    by_cases hr : k ∈ q.Ready
    · rw [if_pos hr]; exact .inl hr
    · rw [if_neg hr]; exact .inl (List.mem_append_right _ (by simp))
theorem F5_l7_spec : ∀ (l : List Op) (i : Nat) (q : Q) (n : Nat), n + 2 * l.length ≤ 200 → Inv q n → ∃ q', F5_l7 l i q.Ready q.Working q.Dirty q.Later q.Retries = some q' ∧ Inv q' (n + 2 * l.length)
  | [], i, q, n, _, h => ⟨q, rfl, h⟩
  | o :: l, i, q, n, hn, h => by
    simp only [List.length_cons] at hn
    obtain ⟨q', k, b, e1, e2, h2, _, _⟩ := op_spec h (by omega) o
    obtain ⟨q2, g1, g2⟩ := F5_l7_spec l (i + 1) q' (n + 2) (by omega) h2
    have e : (⟨q.Ready, q.Working, q.Dirty, q.Later, q.Retries⟩ : WorkQueue) = q := rfl
    rw [F5_l7, e, e1, Option.bind_some]
    exact ⟨q2, g1, g2.mono (by simp; omega)⟩
theorem F5_l18_spec (s : List ByteArray) : ∀ (xs : List ByteArray) (i : Nat) (q : Q) (n : Nat), s.drop i = xs → Inv q n → n ≤ 400000 → F5_l18 s xs i q.Ready q.Working q.Dirty q.Later q.Retries = some (tup (foldD xs q))
  | [], i, q, n, _, _, _ => rfl
  | x :: xs, i, q, n, hd, h, hn => by
    have hi : s[i]? = some x := by
      have := congrArg (·[0]?) hd
      simpa using this
    have hd2 : s.drop (i + 1) = xs := by
      have := congrArg (List.drop 1) hd
      simpa [List.drop_drop, Nat.add_comm] using this
    rw [F5_l18, rdI_nat, hi]
    simp only [Option.bind_some]
    have e : (⟨q.Ready, q.Working, q.Dirty, q.Later, q.Retries⟩ : WorkQueue) = q := rfl
    rw [e, F16_spec h (by omega)]
    simp only [Option.bind_some]
    exact F5_l18_spec s xs (i + 1) (doneS x q) n hd2 (inv_done2 _ h) hn
theorem F5_l23_spec (x : ByteArray) : ∀ (R : List ByteArray) (k j : Nat) (q : Q) (n : Nat), q.Ready = R → q.Working = [] → q.Dirty = [] → Inv q n → n ≤ 400 → x ∈ R → j + R.length ≤ 130 → R.length < k →
    F5_l23 x k q.Ready q.Working q.Dirty q.Later q.Retries (j : Int) = some (.inl true)
  | [], _, _, _, _, _, _, _, _, _, hx, _, _ => by cases hx
  | _, 0, _, _, _, _, _, _, _, _, _, _, h => by omega
  | y :: r, k + 1, j, q, n, hR, hW, hD, h, hn, hx, hj, hk => by
    simp only [List.length_cons] at hj hk
    have e : (⟨q.Ready, q.Working, q.Dirty, q.Later, q.Retries⟩ : WorkQueue) = q := rfl
    have hb : takeB q = true := by unfold takeB; rw [hR]
    have hkk : takeK q = y := by unfold takeK; rw [hR]
    have ht : takeS q = ⟨r, [y], [], q.Later, q.Retries⟩ := by unfold takeS; rw [hR, hW, hD]; simp [putS, insC]
    rw [F5_l23, if_pos (by omega), e, F17_spec h (by omega)]
    simp only [Option.bind_some, tup7, hb, nb_not, Bool.not_true, Bool.false_eq_true, if_false, hkk]
    by_cases hy : y = x
    · rw [if_pos hy, F8_true]; rfl
    · rw [if_neg hy]
      have hxr : x ∈ r := by
        rcases List.mem_cons.1 hx with hx | hx
        · exact (hy hx.symm).elim
        · exact hx
      have e2 : (⟨(takeS q).Ready, (takeS q).Working, (takeS q).Dirty, (takeS q).Later, (takeS q).Retries⟩ : WorkQueue) = takeS q := rfl
      have hi := inv_take h
      have hdn : doneS y (takeS q) = ⟨r, [], [], q.Later, q.Retries⟩ := by rw [ht]; simp [doneS, rmS]
      rw [e2, F16_spec hi (by omega), hdn]
      simp only [Option.bind_some, tup]
      rw [wrapN (by omega)]
      have hi2 := inv_done2 y hi
      rw [hdn] at hi2
      exact F5_l23_spec x r k (j + 1) _ n rfl rfl rfl hi2 hn hxr (by omega) (by omega)
theorem WorkqueueNoLoss_pure : WorkqueueNoLoss.Pure := by
  intro l k _ _ hw
  have hl := wlen (l := l) (by omega)
  unfold F5
  rcases F7_spec l (by omega) with h | ⟨h, hl⟩
  · rw [h]; simp [F8_true]
  rw [h]
  simp only [Option.bind_some, Bool.false_eq_true, if_false, F9, F8_true, decide_eq_true_eq]
  by_cases hk : 100 < (k.size : Int)
  · rw [if_pos hk]
  rw [if_neg hk, ck_t ⟨Nat.zero_le _, by omega⟩, Option.bind_some]
  obtain ⟨q, g1, g2⟩ := F5_l7_spec l 0 _ 0 (by omega) inv_new
  simp only at g1
  rw [g1]
  simp only [Option.bind_some]
  have e : (⟨q.Ready, q.Working, q.Dirty, q.Later, q.Retries⟩ : WorkQueue) = q := rfl
  rw [e, F15_spec g2 (by omega)]
  simp only [Option.bind_some, tup]
  have h1 := inv_add k g2
  have hs := h1.sm (by omega)
  have hin := add_in k q
  generalize addS k q = q1 at *
  rw [F14_spec _ _ hs.r]
  simp only [Option.bind_some]
  rw [F14_spec _ _ hs.d]
  have ho : ((if nb (decide (k ∈ q1.Ready)) = true then (some (decide (k ∈ q1.Dirty))).bind fun t15 => some (nb t15) else some false) : Option Bool) = some false := by
    by_cases hr : k ∈ q1.Ready
    · simp [hr, nb]
    · have hd := hin.resolve_left hr
      simp [hr, hd, nb]
  rw [ho]
  have hw := hs.w
  simp only [Option.bind_some, Bool.false_eq_true, if_false]
  rw [apI_t (by simp; omega)]
  simp only [Option.bind_some, List.nil_append]
  rw [ck_t ⟨Nat.zero_le _, by omega⟩, Option.bind_some, F5_l18_spec q1.Working q1.Working 0 q1 _ (by simp) h1 (by omega)]
  simp only [Option.bind_some, tup]
  have h2 := inv_foldD q1.Working h1
  have hin2 := foldD_in q1.Working h1 hin
  have hW : (foldD q1.Working q1).Working = [] := by
    rw [List.eq_nil_iff_forall_not_mem]
    intro z hz
    have := (foldD_W q1.Working).1 hz
    exact this.2 this.1
  generalize foldD q1.Working q1 = q2 at *
  have hD : q2.Dirty = [] := by
    rw [List.eq_nil_iff_forall_not_mem]
    intro z hz
    have := h2.dW z hz
    rw [hW] at this; cases this
  have hR : k ∈ q2.Ready := by
    rcases hin2 with h | h
    · exact h
    · rw [hD] at h; cases h
  have hlen := h2.len
  have := F5_l23_spec k q2.Ready 1099511627776 0 q2 _ rfl hW hD h2 (by omega) hR (by omega) (by omega)
  rw [show ((0 : Nat) : Int) = 0 from rfl] at this
  rw [this]; rfl

/-! One at a time. -/
theorem F18_el (l : List ByteArray) (x : ByteArray) (h : l.length ≤ 1000000) : ∃ r, F18 l [x] = some r ∧ r.length ≤ l.length ∧ ∀ z, z ∈ r ↔ z ∈ l ∧ z ≠ x := by
  obtain ⟨r, h1, h2, h3⟩ := F18_any x l 0 [] (by simp; omega)
  refine ⟨r, ?_, by simpa using h2, fun z => by rw [h3]; simp⟩
  unfold F18
  rw [ck_t ⟨Nat.zero_le _, by omega⟩, Option.bind_some, h1]; rfl
theorem F6_l5_spec : ∀ (l : List Op) (i : Nat) (q : Q) (n : Nat) (wk : List ByteArray), n + 2 * l.length ≤ 200 → Inv q n → (∀ z ∈ wk, z ∈ q.Working) → wk.length + l.length ≤ 1000 → F6_l5 l i q.Ready q.Working q.Dirty q.Later q.Retries wk = some (.inr ())
  | [], i, q, n, wk, _, _, _, _ => rfl
  | o :: l, i, q, n, wk, hn, h, hwk, hwl => by
    simp only [List.length_cons] at hn hwl
    obtain ⟨q', k, b, e1, _, h2, hb, hz⟩ := op_spec h (by omega) o
    have e : (⟨q.Ready, q.Working, q.Dirty, q.Later, q.Retries⟩ : WorkQueue) = q := rfl
    rw [F6_l5, e, e1]
    simp only [Option.bind_some, tup7]
    have ho9 : ((if b = true then (F14 wk k).bind fun t11 => some t11 else some false) : Option Bool) = some false := by
      cases b with
      | false => rfl
      | true =>
        have hkw : k ∉ wk := fun hm => (hb rfl).1 (hwk k hm)
        rw [F14_spec _ _ (by omega)]; simp [hkw]
    rw [ho9]
    simp only [Option.bind_some, Bool.false_eq_true, if_false]
    have ho13 : ∃ w2, ((if b = true then (apI wk ([k])).bind fun a15 => some a15 else some wk) : Option (List ByteArray)) = some w2 ∧ w2.length ≤ wk.length + 1 ∧ ∀ z ∈ w2, z ∈ wk ∨ b = true ∧ z = k := by
      cases b with
      | false => exact ⟨wk, rfl, by omega, fun z hz => .inl hz⟩
      | true =>
        simp only [if_true]
        rw [apI_t (by simp; omega)]
        refine ⟨wk ++ [k], rfl, by simp, fun z hz => ?_⟩
        rcases List.mem_append.1 hz with hz | hz
        · exact .inl hz
        · exact .inr ⟨trivial, by simpa using hz⟩
    obtain ⟨w2, g1, g2, g3⟩ := ho13
    rw [g1]
    simp only [Option.bind_some]
    by_cases h3 : o.Kind.tmod 7 = 3
    · obtain ⟨r, r1, r2, r3⟩ := F18_el w2 o.Key (by omega)
      rw [if_pos h3, r1]
      simp only [Option.bind_some]
      refine F6_l5_spec l (i + 1) q' (n + 2) r (by omega) h2 (fun z hzr => ?_) (by omega)
      obtain ⟨a1, a2⟩ := (r3 z).1 hzr
      rcases g3 z a1 with a | ⟨a, a'⟩
      · exact hz z (hwk z a) fun _ => a2
      · rw [a']; exact (hb a).2
    · rw [if_neg h3]
      simp only [Option.bind_some]
      refine F6_l5_spec l (i + 1) q' (n + 2) w2 (by omega) h2 (fun z hzr => ?_) (by omega)
      rcases g3 z hzr with a | ⟨a, a'⟩
      · exact hz z (hwk z a) fun e => (h3 e).elim
      · rw [a']; exact (hb a).2
theorem WorkqueueOne_pure : WorkqueueOne.Pure := by
  intro l _ hw
  have hl := wlen (l := l) (by omega)
  unfold F6
  rcases F7_spec l (by omega) with h | ⟨h, hl⟩
  · rw [h]; simp [F8_true]
  rw [h]
  simp only [Option.bind_some, Bool.false_eq_true, if_false, F9, F8_true]
  rw [ck_t ⟨Nat.zero_le _, by omega⟩, Option.bind_some]
  have := F6_l5_spec l 0 _ 0 [] (by omega) inv_new (fun z hz => by cases hz) (by simp; omega)
  simp only at this
  rw [this]; rfl
end Go.Proofs.Ytpgonamdmlgifaa
