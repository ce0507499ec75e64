/- The plain laws, part 5. -/
import Derived.Test.YtpgonamdmlgifaaQ4
set_option linter.unusedVariables false
set_option linter.unusedSimpArgs false
namespace Go.Proofs.Ytpgonamdmlgifaa
open Go Go.Fw
set_option maxRecDepth 100000

/-! Delays. -/
theorem F44_zero (x1 n : Int) (hn : 1 ≤ n) (hn2 : n ≤ 1000000000000000) : ∀ (m i k : Nat), i + m = 64 → m < k → F44_l4 x1 n k 0 (i : Int) = some 0
  | _, _, 0, _, h => by omega
  | m, i, k + 1, h, hk => by
    rw [F44_l4]
    rw [wrapI (by omega) (by omega)]
    by_cases hi : (i : Int) < (if 64 < n - 1 then 64 else n - 1)
    · rw [if_pos hi]
      have e : IntKind.i64.wrap (0 * 2) = 0 := by decide
      rw [e, wrapN (by omega)]
      by_cases h2 : clT x1 ≤ 0
      · exact if_pos h2
      · refine (if_neg h2).trans ?_
        cases m with
        | zero => exfalso; split at hi <;> omega
        | succ m => exact F44_zero x1 n hn hn2 m (i + 1) k (by omega) (by omega)
    · rw [if_neg hi]
theorem lock (x1 n : Int) (hn : 1 ≤ n) (hn2 : n ≤ 1000000000000000) : ∀ (m i k k' : Nat) (d : Int), i + m = 64 → m < k → m < k' → (2 : Int) ^ i ≤ d → 1 ≤ d → d ≤ 2000000000000 →
    ∃ r, F44_l4 x1 n k d (i : Int) = some r ∧ F58_l4 (clT x1) n k' d (((i + 1 : Nat)) : Int) = some r ∧ 0 ≤ r
  | _, _, 0, _, _, _, h, _, _, _, _ => by omega
  | _, _, _, 0, _, _, _, h, _, _, _ => by omega
  | 0, i, k + 1, k' + 1, d, h, _, _, hp, _, hd => by
    exfalso
    have : i = 64 := by omega
    subst this
    have e : (2 : Int) ^ 64 = 18446744073709551616 := by decide
    rw [e] at hp; omega
  | m + 1, i, k + 1, k' + 1, d, h, hk, hk', hp, h1, hd => by
    have hc := clT_r x1
    rw [F44_l4, F58_l4]
    have hcl : (if 1000000000000 < (if x1 < 0 then 0 else x1) then 1000000000000 else (if x1 < 0 then 0 else x1)) = clT x1 := rfl
    rw [hcl, wrapI (by omega) (by omega)]
    by_cases hi : ((i + 1 : Nat) : Int) < n
    · rw [if_pos (show (i : Int) < if 64 < n - 1 then 64 else n - 1 by split <;> omega), if_pos hi, if_pos (show 0 < d by omega)]
      simp only [Option.bind_some, decide_eq_true_eq]
      by_cases hlt : d < clT x1
      · rw [if_neg (by omega), if_pos hlt]
        have e1 : IntKind.i64.wrap (d * 2) = 2 * d := by rw [wrapI (by omega) (by omega)]; omega
        have e2 : IntKind.i64.wrap (2 * d) = 2 * d := by rw [wrapI (by omega) (by omega)]
        rw [e1, e2, wrapN (by omega), wrapN (by omega)]
        exact lock x1 n hn hn2 m (i + 1) k k' (2 * d) (by omega) (by omega) (by omega) (by rw [Int.pow_succ]; omega) (by omega) (by omega)
      · rw [if_pos (by omega), if_neg hlt]
        exact ⟨d, rfl, rfl, by omega⟩
    · rw [if_neg (show ¬ (i : Int) < if 64 < n - 1 then 64 else n - 1 by split <;> omega), if_neg hi]
      simp only [Option.bind_some, Bool.false_eq_true, if_false]
      exact ⟨d, rfl, rfl, by omega⟩
theorem F71_clT (t : Int) : F71 t 1000000000000 = some (clT t) := by
  unfold F71 clT
  by_cases h : t < 0
  · simp [h]
  · simp only [h, if_false]; split <;> rfl
theorem delays (x0 x1 n : Int) (hn : 1 ≤ n) (hn2 : n ≤ 1000000000000000) : ∃ d, F44 x0 x1 n = some d ∧ F58 x0 x1 n = some d ∧ 0 ≤ d ∧ d ≤ 1000000000000 := by
  have h0 := clT_r x0
  have h1 := clT_r x1
  have fin : ∀ r : Int, 0 ≤ r → F44_l4 x1 n 1099511627776 (clT x0) 0 = some r → F58_l4 (clT x1) n 1099511627776 (clT x0) 1 = some r → ∃ d, F44 x0 x1 n = some d ∧ F58 x0 x1 n = some d ∧ 0 ≤ d ∧ d ≤ 1000000000000 := by
    intro r hr e1 e2
    have a1 : F44 x0 x1 n = some (if clT x1 < r then clT x1 else r) := by
      unfold F44
      simp only [F68, Option.bind_some]
      rw [if_neg (by omega)]
      show ((F44_l4 x1 n 1099511627776 (clT x0) 0).bind fun o4 => some (if clT x1 < o4 then clT x1 else o4)) = _
      rw [e1]; rfl
    have a2 : F58 x0 x1 n = some (if clT x1 < r then clT x1 else r) := by
      unfold F58
      rw [F71_clT, F71_clT]
      simp only [Option.bind_some]
      rw [if_neg (by omega), e2]
      simp only [Option.bind_some]
      split <;> rfl
    exact ⟨_, a1, a2, by split <;> omega, by split <;> omega⟩
  by_cases hz : clT x0 = 0
  · refine fin 0 (Int.le_refl _) ?_ ?_
    · rw [hz]; exact F44_zero x1 n hn hn2 64 0 _ (by omega) (by omega)
    · rw [hz, F58_l4]
      simp only [Int.lt_irrefl, if_false]
      split <;> simp
  · obtain ⟨r, e1, e2, e3⟩ := lock x1 n hn hn2 64 0 1099511627776 1099511627776 (clT x0) (by omega) (by omega) (by omega) (by simp; omega) (by omega) (by omega)
    exact fin r e3 e1 e2

/-! Fail. -/
def cnt (k : ByteArray) (l : List W) : Int := match l[fi k l]? with | some y => if 1000000000000000 < y.At + 1 then 1000000000000000 else y.At + 1 | none => 1
theorem cnt_r {k : ByteArray} {l : List W} (h : ∀ x ∈ l, 1 ≤ x.At ∧ x.At ≤ 1000000000000000) : 1 ≤ cnt k l ∧ cnt k l ≤ 1000000000000000 := by
  unfold cnt
  cases hg : l[fi k l]? with
  | none => simp
  | some y =>
    have := h y (List.mem_of_getElem? hg)
    simp only
    split <;> omega
theorem cK_zero {k : ByteArray} {y : W} : cK k y = 0 ↔ y.Key = k := scmp_zero _ _
theorem cK_neg {k : ByteArray} {y : W} : cK k y < 0 ↔ lt y.Key k := scmp_neg _ _
theorem fi_plc {k : ByteArray} : ∀ {l : List W}, S (cK k) l → hasC (cK k) l = true → fi k l = plc (cK k) l
  | [], _, h => by simp [hasC] at h
  | y :: l, hs, h => by
    have hs2 := List.pairwise_cons.1 hs
    rw [hasC_cons] at h
    unfold fi plc
    by_cases hc : cK k y < 0
    · have h0 : cK k y ≠ 0 := by omega
      have hk : y.Key ≠ k := fun e => h0 (cK_zero.2 e)
      rw [if_neg hk, if_pos hc, fi_plc hs2.2 (by simpa [h0] using h)]
    · rw [if_neg hc]
      by_cases h0 : cK k y = 0
      · rw [if_pos (cK_zero.1 h0)]
      · have hg : hasC (cK k) l = false := hasC_gt fun z hz => by have := hs2.1 z hz; omega
        rw [hg] at h; simp [h0] at h
theorem hasC_fi (k : ByteArray) (l : List W) : hasC (cK k) l = decide (fi k l < l.length) := by
  rw [Bool.eq_iff_iff, hasC_iff, decide_eq_true_iff]
  constructor
  · rintro ⟨y, h1, h2⟩
    by_cases hf : fi k l < l.length
    · exact hf
    · exact (fi_none k hf y h1 (cK_zero.1 h2)).elim
  · intro h
    obtain ⟨y, h1, h2⟩ := fi_at k h
    exact ⟨y, List.mem_of_getElem? h1, cK_zero.2 h2⟩
theorem set_insC {k : ByteArray} {x : W} : ∀ {l : List W}, S (cK k) l → hasC (cK k) l = true → l.set (plc (cK k) l) x = insC (cK k) x (flt k l)
  | [], _, h => by simp [hasC] at h
  | y :: l, hs, h => by
    have hs2 := List.pairwise_cons.1 hs
    rw [hasC_cons] at h
    unfold plc
    by_cases hc : cK k y < 0
    · have h0 : cK k y ≠ 0 := by omega
      have hk : y.Key ≠ k := fun e => h0 (cK_zero.2 e)
      have hf : flt k (y :: l) = y :: flt k l := by unfold flt; rw [List.filter_cons_of_pos (by simpa using hk)]
      rw [if_pos hc, List.set_cons_succ, hf, insC, if_pos hc, set_insC hs2.2 (by simpa [h0] using h)]
    · have hg : ∀ z ∈ l, 0 < cK k z := fun z hz => by have := hs2.1 z hz; omega
      have h0 : cK k y = 0 := by rw [hasC_gt hg] at h; simpa using h
      have hk := cK_zero.1 h0
      have hf : flt k (y :: l) = l := by
        unfold flt; rw [List.filter_cons_of_neg (by simpa using hk)]
        exact flt_none fun z hz e => by have := hg z hz; have := cK_zero.2 e; omega
      rw [if_neg hc, List.set_cons_zero, hf]
      cases l with
      | nil => rfl
      | cons z l => rw [insC, if_neg (by have := hg z (List.mem_cons_self ..); omega)]
def retS (k : ByteArray) (q : Q) : Q := ⟨q.Ready, q.Working, q.Dirty, q.Later, insC (cK k) ⟨k, cnt k q.Retries⟩ (flt k q.Retries)⟩
theorem inv_ret (k : ByteArray) {q : Q} {n : Nat} (h : Inv q n) : Inv (retS k q) (n + 1) := by
  have hl := h.len
  have hf := flt_len k q.Retries
  have hc := cnt_r (k := k) h.bT
  unfold retS
  generalize cnt k q.Retries = c at *
  have hsl : (flt k q.Retries).Pairwise fun a b => lt a.Key b.Key := h.sT.sublist List.filter_sublist
  refine ⟨by simp only [insC_len]; omega, h.sW, h.sD, h.sL, h.uL, h.bL, ?_, fun z hz => ?_, h.nR, h.dR, h.dW⟩
  · exact insC_pw (R := fun a b => lt a.Key b.Key) (x := (⟨k, c⟩ : W)) (fun _ _ _ => lt_trans) (fun y _ hc => cK_neg.1 hc) (fun y hy hc => (show lt k y.Key from lt_of_not (mt cK_neg.2 hc) (flt_ne k _ y hy))) hsl
  · rcases (insC_mem _ _ _ _).1 hz with e | hz
    · rw [e]; exact hc
    · exact h.bT z (List.mem_filter.1 hz).1
theorem after_congr {k : ByteArray} {a b : Int} (h : clT a = clT b) (q : Q) : afterS k a q = afterS k b q := by
  have e : tm k a q.Later = tm k b q.Later := by unfold tm; rw [h]
  unfold afterS; rw [e]
theorem F19_spec {q : Q} {n : Nat} (h : Inv q n) (hn : n ≤ 800000) (k : ByteArray) (now x3 x4 : Int) {d : Int} (hd : F44 x3 x4 (cnt k q.Retries) = some d) (hd0 : 0 ≤ d) (hd1 : d ≤ 1000000000000) :
    F19 q k now x3 x4 = some (tup (afterS k (clT now + d) (retS k q))) := by
  have hs := h.sm (by omega)
  have hS := S_key h.sT k
  unfold F19
  rw [F32_spec hs]
  simp only [Option.bind_some, tup]
  rw [F39v1_spec hs.t]
  simp only [Option.bind_some]
  rw [F41v1_spec h.sT hs.t]
  simp only [Option.bind_some]
  have hcl : (if 1000000000000 < (if now < 0 then 0 else now) then 1000000000000 else (if now < 0 then 0 else now)) = clT now := rfl
  have hcn := clT_r now
  simp only [hcl, F43, Option.bind_some]
  have key : ∀ o3 : (List WorkItem) × Int, o3 = (insC (cK k) ⟨k, cnt k q.Retries⟩ (flt k q.Retries), cnt k q.Retries) → ((F44 x3 x4 o3.2).bind fun t10 => (F21 ((⟨q.Ready, q.Working, q.Dirty, q.Later, o3.1⟩ : WorkQueue)) k ((if 1000000000000 < (IntKind.i64.wrap (clT now + t10)) then 1000000000000 else (IntKind.i64.wrap (clT now + t10))))).bind fun t11 => some ((t11.1, t11.2.1, t11.2.2.1, t11.2.2.2.1, t11.2.2.2.2))) = some (tup (afterS k (clT now + d) (retS k q))) := by
    rintro _ rfl
    simp only [hd, Option.bind_some]
    rw [wrapI (by omega) (by omega)]
    have := F21_spec (inv_ret k h) (by omega) k (if 1000000000000 < clT now + d then 1000000000000 else clT now + d)
    unfold retS at this
    rw [this, after_congr (b := clT now + d) (by unfold clT; split <;> (try split) <;> (try split) <;> omega)]
    rfl
  by_cases hf : fi k q.Retries < q.Retries.length
  · have hh : hasC (cK k) q.Retries = true := by rw [hasC_fi]; simpa using hf
    have hp := plc_lt hS hh
    have hfp := fi_plc hS hh
    simp only [hh, if_true]
    rw [rdI_at hp]
    simp only [Option.bind_some, Int.toNat_natCast]
    have hb := h.bT _ (List.getElem_mem hp)
    rw [wrapI (by omega) (by omega)]
    have hc : cnt k q.Retries = if 1000000000000000 < (q.Retries[plc (cK k) q.Retries]).At + 1 then 1000000000000000 else (q.Retries[plc (cK k) q.Retries]).At + 1 := by
      unfold cnt; rw [hfp, List.getElem?_eq_getElem hp]
    rw [← hc, set_insC hS hh]
    exact key (_, _) rfl
  · have hh : hasC (cK k) q.Retries = false := by rw [hasC_fi]; simpa using hf
    simp only [hh, Bool.false_eq_true, if_false]
    unfold F42v1
    rw [F41v1_spec h.sT hs.t]
    simp only [Option.bind_some, hh, Bool.false_eq_true, if_false]
    rw [insI_C _ hs.t]
    simp only [Option.bind_some]
    have hc : cnt k q.Retries = 1 := by unfold cnt; rw [List.getElem?_eq_none (by omega)]
    have := key (insC (cK k) ⟨k, 1⟩ q.Retries, 1) (by rw [hc, flt_none (fi_none k hf)])
    exact this
theorem F27_spec {q : Q} {n : Nat} (h : Inv q n) (hn : n ≤ 800000) (k : ByteArray) (now x3 x4 : Int) {d : Int} (hd : F58 x3 x4 (cnt k q.Retries) = some d) (hd0 : 0 ≤ d) (hd1 : d ≤ 1000000000000) :
    F27 q k now x3 x4 = some (tup (afterS k (clT now + d) (retS k q))) := by
  have hs := h.sm (by omega)
  have hsl : (flt k q.Retries).Pairwise fun a b => lt a.Key b.Key := h.sT.sublist List.filter_sublist
  have hl : (flt k q.Retries).length ≤ 1000000 := Nat.le_trans (flt_len _ _) hs.t
  unfold F27
  rw [F51_spec hs]
  simp only [Option.bind_some, tup]
  have hcl : (if 1000000000000 < (if now < 0 then 0 else now) then 1000000000000 else (if now < 0 then 0 else now)) = clT now := rfl
  have hcn := clT_r now
  obtain ⟨v, b, hv, hc⟩ : ∃ v b, F55 q.Retries k = some (v, b) ∧ (if 1000000000000000 < (IntKind.i64.wrap (v + 1)) then 1000000000000000 else (IntKind.i64.wrap (v + 1))) = cnt k q.Retries := by
    unfold cnt
    cases hg : q.Retries[fi k q.Retries]? with
    | none => exact ⟨0, false, by rw [F55_spec _ _ hs.t, hg], by decide⟩
    | some y =>
      have := h.bT y (List.mem_of_getElem? hg)
      exact ⟨y.At, true, by rw [F55_spec _ _ hs.t, hg], by rw [wrapI (by omega) (by omega)]⟩
  rw [hv]
  simp only [Option.bind_some]
  rw [hc, F57_spec _ _ hs.t, Option.bind_some, F56_spec false ⟨k, cnt k q.Retries⟩ (flt k q.Retries) (cK k) (fun _ _ => rfl) ((S_key hsl k).imp fun {a b} hab hc => hab (by omega)) (fun a ha => flt_ne k _ a ha) hl]
  simp only [Option.bind_some, F54, hd, hcl]
  rw [wrapI (by omega) (by omega)]
  have := F24_spec (inv_ret k h) (by omega) k (clT now + d)
  unfold retS at this
  rw [this]; rfl

/-! Forget. -/
def forgetS (k : ByteArray) (q : Q) : Q := ⟨q.Ready, q.Working, q.Dirty, q.Later, flt k q.Retries⟩
theorem F22_spec {q : Q} {n : Nat} (h : Inv q n) (hn : n ≤ 800000) (k : ByteArray) : F22 q k = some (tup (forgetS k q)) := by
  have hs := h.sm (by omega)
  have hS := S_key h.sT k
  have e : q.Retries.filter (fun y => decide (cK k y ≠ 0)) = flt k q.Retries := List.filter_congr fun y _ => decide_eq_decide.2 (not_congr cK_zero)
  unfold F22
  rw [F32_spec hs]
  simp only [Option.bind_some, tup]
  rw [F39v1_spec hs.t]
  simp only [Option.bind_some]
  unfold F50
  rw [F41v1_spec h.sT hs.t]
  simp only [Option.bind_some, nb_not]
  cases hh : hasC (cK k) q.Retries with
  | true =>
    simp only [Bool.not_true, Bool.false_eq_true, if_false]
    rw [delI_C hS hs.t hh, e]; rfl
  | false =>
    simp only [Bool.not_false, if_true, Option.bind_some]
    have e2 : flt k q.Retries = q.Retries := by rw [← e, rem_N hh]
    unfold forgetS
    rw [e2]
theorem F28_spec {q : Q} {n : Nat} (h : Inv q n) (hn : n ≤ 800000) (k : ByteArray) : F28 q k = some (tup (forgetS k q)) := by
  have hs := h.sm (by omega)
  unfold F28
  rw [F51_spec hs]
  simp only [Option.bind_some, tup]
  rw [F57_spec _ _ hs.t]; rfl
theorem inv_forget (k : ByteArray) {q : Q} {n : Nat} (h : Inv q n) : Inv (forgetS k q) n := by
  have hl := h.len
  have hf := flt_len k q.Retries
  have hsl : (flt k q.Retries).Pairwise fun a b => lt a.Key b.Key := h.sT.sublist List.filter_sublist
  exact ⟨by simp only [forgetS]; omega, h.sW, h.sD, h.sL, h.uL, h.bL, hsl, fun z hz => h.bT z (List.mem_filter.1 hz).1, h.nR, h.dR, h.dW⟩
end Go.Proofs.Ytpgonamdmlgifaa
