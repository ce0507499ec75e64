/- The plain laws, part 4. -/
import Derived.Test.YtpgonamdmlgifaaQ3
set_option linter.unusedVariables false
set_option linter.unusedSimpArgs false
namespace Go.Proofs.Ytpgonamdmlgifaa
open Go Go.Fw
set_option maxRecDepth 100000

/-! Whole queues. -/
def tup (q : Q) : (List ByteArray) × (List ByteArray) × (List ByteArray) × (List WorkItem) × (List WorkItem) := (q.Ready, q.Working, q.Dirty, q.Later, q.Retries)
def tup7 (q : Q) (k : ByteArray) (b : Bool) : (List ByteArray) × (List ByteArray) × (List ByteArray) × (List WorkItem) × (List WorkItem) × ByteArray × Bool := (q.Ready, q.Working, q.Dirty, q.Later, q.Retries, k, b)
structure Sm (q : Q) : Prop where
  r : q.Ready.length ≤ 1000000
  w : q.Working.length ≤ 1000000
  d : q.Dirty.length ≤ 1000000
  l : q.Later.length ≤ 1000000
  t : q.Retries.length ≤ 1000000
theorem cl_t {α : Type} {l : List α} (h : l.length ≤ 1000000) : cloneI l = some l := if_pos (by omega)
theorem F32_spec {q : Q} (h : Sm q) : F32 q = some (tup q) := by
  unfold F32
  rw [cl_t h.r, Option.bind_some, cl_t h.w, Option.bind_some, cl_t h.d, Option.bind_some, cl_t h.l, Option.bind_some, cl_t h.t, Option.bind_some]; rfl
theorem F51_spec {q : Q} (h : Sm q) : F51 q = some (tup q) := by
  obtain ⟨h1, h2, h3, h4, h5⟩ := h
  unfold F51
  rw [apI_t (by simp; omega), Option.bind_some, apI_t (by simp; omega), Option.bind_some, apI_t (by simp; omega), Option.bind_some, apI_t (by simp; omega), Option.bind_some, apI_t (by simp; omega), Option.bind_some]; rfl
theorem F33_spec {l : List ByteArray} (h : l.length ≤ 1000000) : F33 l = some l := by unfold F33 F60; rw [cl_t h]; rfl
theorem F39_spec {l : List W} (h : l.length ≤ 1000000) : F39 l = some l := by unfold F39; rw [cl_t h]; rfl
theorem F39v1_spec {l : List W} (h : l.length ≤ 1000000) : F39v1 l = some l := by unfold F39v1; rw [cl_t h]; rfl

structure Inv (q : Q) (n : Nat) : Prop where
  len : q.Ready.length + q.Working.length + q.Dirty.length + q.Later.length + q.Retries.length ≤ n
  sW : q.Working.Pairwise lt
  sD : q.Dirty.Pairwise lt
  sL : q.Later.Pairwise ltW
  uL : Uq q.Later
  bL : ∀ x ∈ q.Later, 0 ≤ x.At ∧ x.At ≤ 1000000000000
  sT : q.Retries.Pairwise fun a b => lt a.Key b.Key
  bT : ∀ x ∈ q.Retries, 1 ≤ x.At ∧ x.At ≤ 1000000000000000
  nR : q.Ready.Nodup
  dR : ∀ k ∈ q.Ready, k ∉ q.Working
  dW : ∀ k ∈ q.Dirty, k ∈ q.Working
theorem Inv.sm {q : Q} {n : Nat} (h : Inv q n) (hn : n ≤ 900000) : Sm q := by
  have := h.len
  exact ⟨by omega, by omega, by omega, by omega, by omega⟩
theorem Inv.mono {q : Q} {n m : Nat} (h : Inv q n) (hm : n ≤ m) : Inv q m := { h with len := Nat.le_trans h.len hm }

theorem putS_mem {x z : ByteArray} {l : List ByteArray} : z ∈ putS x l ↔ z = x ∨ z ∈ l := by
  unfold putS
  split
  · rename_i h; exact ⟨.inr, fun g => g.elim (fun e => e ▸ h) id⟩
  · exact insC_mem _ _ _ _
theorem putS_len (x : ByteArray) (l : List ByteArray) : (putS x l).length ≤ l.length + 1 := by
  unfold putS
  split
  · omega
  · rw [insC_len]; omega
theorem putS_pw {x : ByteArray} {l : List ByteArray} (h : l.Pairwise lt) : (putS x l).Pairwise lt := by
  unfold putS
  split
  · exact h
  · rename_i hx
    refine insC_pw (R := lt) (fun _ _ _ => lt_trans) (fun y _ hc => (scmp_neg y x).1 hc) (fun y hy hc => ?_) h
    exact lt_of_not (mt (scmp_neg y x).2 hc) fun e => hx (e ▸ hy)
theorem rmS_pw {x : ByteArray} {l : List ByteArray} (h : l.Pairwise lt) : (rmS x l).Pairwise lt := h.sublist List.filter_sublist

/-! Add. -/
def addS (k : ByteArray) (q : Q) : Q := if k ∈ q.Working then ⟨q.Ready, q.Working, putS k q.Dirty, q.Later, q.Retries⟩ else if k ∈ q.Ready then q else ⟨q.Ready ++ [k], q.Working, q.Dirty, q.Later, q.Retries⟩
theorem F15_spec {q : Q} {n : Nat} (h : Inv q n) (hn : n ≤ 900000) (k : ByteArray) : F15 q k = some (tup (addS k q)) := by
  have hs := h.sm hn
  unfold F15
  rw [F32_spec hs]
  simp only [Option.bind_some, tup]
  rw [F33_spec hs.w]
  simp only [Option.bind_some]
  rw [F34_spec h.sW hs.w]
  simp only [Option.bind_some, hasC_str]
  unfold addS
  by_cases hk : k ∈ q.Working
  · simp only [hk, decide_true, if_true]
    rw [F33_spec hs.d, Option.bind_some, F35_spec h.sD hs.d, Option.bind_some]
  · simp only [hk, decide_false, Bool.false_eq_true, if_false]
    rw [F36_spec q.Ready k hs.r, Option.bind_some, nb_not]
    by_cases hr : k ∈ q.Ready
    · simp [hr]
    · have := hs.r
      simp only [hr, decide_false, Bool.not_false, if_true, if_false]
      rw [apI_t (by simp; omega)]; rfl
theorem F23_spec {q : Q} {n : Nat} (h : Inv q n) (hn : n ≤ 900000) (k : ByteArray) : F23 q k = some (tup (addS k q)) := by
  have hs := h.sm hn
  unfold F23
  rw [F51_spec hs]
  simp only [Option.bind_some, tup]
  rw [F14_spec _ _ hs.w, Option.bind_some]
  unfold addS
  by_cases hk : k ∈ q.Working
  · simp only [hk, decide_true, if_true, F53, Option.bind_some]
    rw [F52_spec h.sD hs.d, Option.bind_some]
  · simp only [hk, decide_false, Bool.false_eq_true, if_false]
    rw [F14_spec q.Ready k hs.r, Option.bind_some, nb_not]
    by_cases hr : k ∈ q.Ready
    · simp [hr]
    · have := hs.r
      simp only [hr, decide_false, Bool.not_false, if_true, if_false]
      rw [apI_t (by simp; omega)]; rfl
theorem inv_add (k : ByteArray) {q : Q} {n : Nat} (h : Inv q n) : Inv (addS k q) (n + 1) := by
  have hl := h.len
  unfold addS
  by_cases hk : k ∈ q.Working
  · rw [if_pos hk]
    have := putS_len k q.Dirty
    exact { h with len := by simp only; omega, sD := putS_pw h.sD, dW := fun z hz => (putS_mem.1 hz).elim (fun e => e ▸ hk) (h.dW z) }
  · rw [if_neg hk]
    by_cases hr : k ∈ q.Ready
    · rw [if_pos hr]; exact h.mono (by omega)
    · rw [if_neg hr]
      refine { h with len := by simp only [List.length_append, List.length_cons, List.length_nil]; omega, nR := ?_, dR := ?_ }
      · show (q.Ready ++ [k]).Nodup
        rw [List.nodup_append]
        exact ⟨h.nR, by simp, fun a ha b hb e => by simp at hb; subst hb; subst e; exact hr ha⟩
      · intro z hz
        rcases List.mem_append.1 hz with hz | hz
        · exact h.dR z hz
        · simp at hz; rw [hz]; exact hk
theorem add_W (k : ByteArray) (q : Q) : (addS k q).Working = q.Working := by unfold addS; split <;> (try split) <;> rfl
theorem add_L (k : ByteArray) (q : Q) : (addS k q).Later = q.Later := by unfold addS; split <;> (try split) <;> rfl

/-! Take. -/
def takeS (q : Q) : Q := match q.Ready with | [] => q | k :: r => ⟨r, putS k q.Working, q.Dirty, q.Later, q.Retries⟩
def takeK (q : Q) : ByteArray := match q.Ready with | [] => ⟨#[]⟩ | k :: _ => k
def takeB (q : Q) : Bool := match q.Ready with | [] => false | _ :: _ => true
theorem F17_spec {q : Q} {n : Nat} (h : Inv q n) (hn : n ≤ 900000) : F17 q = some (tup7 (takeS q) (takeK q) (takeB q)) := by
  have hs := h.sm hn
  unfold F17
  rw [F32_spec hs]
  simp only [Option.bind_some, tup]
  unfold takeS takeK takeB
  cases hR : q.Ready with
  | nil => simp [tup7, hR]
  | cons k r =>
    have hr : (k :: r).length ≤ 1000000 := hR ▸ hs.r
    simp only [List.length_cons] at hr
    rw [if_neg (by simp only [List.length_cons]; omega), show (0 : Int) = ((0 : Nat) : Int) from rfl, rdI_nat]
    simp only [List.getElem?_cons_zero, Option.bind_some]
    rw [show (1 : Int) = ((1 : Nat) : Int) from rfl, slI_t (by simp) (by simp)]
    simp only [Option.bind_some, List.length_cons, List.drop_succ_cons, List.drop_zero, Nat.add_sub_cancel, List.take_length]
    rw [F33_spec hs.w, Option.bind_some, F35_spec h.sW hs.w]; rfl
theorem F25_spec {q : Q} {n : Nat} (h : Inv q n) (hn : n ≤ 900000) : F25 q = some (tup7 (takeS q) (takeK q) (takeB q)) := by
  have hs := h.sm hn
  unfold F25
  rw [F51_spec hs]
  simp only [Option.bind_some, tup]
  unfold takeS takeK takeB
  cases hR : q.Ready with
  | nil => simp [tup7, hR]
  | cons k r =>
    have hr : (k :: r).length ≤ 1000000 := hR ▸ hs.r
    simp only [List.length_cons] at hr
    rw [if_neg (by simp only [List.length_cons]; omega), show (0 : Int) = ((0 : Nat) : Int) from rfl, rdI_nat]
    simp only [List.getElem?_cons_zero, Option.bind_some]
    rw [show (1 : Int) = ((1 : Nat) : Int) from rfl, slI_t (by simp) (by simp)]
    simp only [Option.bind_some, List.length_cons, List.drop_succ_cons, List.drop_zero, Nat.add_sub_cancel, List.take_length, F53]
    rw [F52_spec h.sW hs.w]; rfl
theorem inv_take {q : Q} {n : Nat} (h : Inv q n) : Inv (takeS q) n := by
  have hl := h.len
  unfold takeS
  cases hR : q.Ready with
  | nil => exact h
  | cons k r =>
    have hn := h.nR; have hd := h.dR
    rw [hR] at hl hn hd
    have hn2 := List.nodup_cons.1 hn
    have := putS_len k q.Working
    simp only [List.length_cons] at hl
    refine { h with len := by simp only; omega, sW := putS_pw h.sW, nR := hn2.2, dR := fun z hz hw => ?_, dW := fun z hz => putS_mem.2 (.inr (h.dW z hz)) }
    rcases putS_mem.1 hw with e | hw
    · exact hn2.1 (e ▸ hz)
    · exact hd z (List.mem_cons_of_mem _ hz) hw

/-! Done. -/
def doneS (k : ByteArray) (q : Q) : Q := if k ∈ q.Working then (if k ∈ q.Dirty then ⟨q.Ready ++ [k], rmS k q.Working, rmS k q.Dirty, q.Later, q.Retries⟩ else ⟨q.Ready, rmS k q.Working, q.Dirty, q.Later, q.Retries⟩) else q
theorem F16_spec {q : Q} {n : Nat} (h : Inv q n) (hn : n ≤ 900000) (k : ByteArray) : F16 q k = some (tup (doneS k q)) := by
  have hs := h.sm hn
  unfold F16
  rw [F32_spec hs]
  simp only [Option.bind_some, tup]
  rw [F33_spec hs.w]
  simp only [Option.bind_some]
  rw [F34_spec h.sW hs.w]
  simp only [Option.bind_some, hasC_str, nb_not]
  unfold doneS
  by_cases hk : k ∈ q.Working
  · simp only [hk, decide_true, Bool.not_true, Bool.false_eq_true, if_false, if_true]
    rw [F37_spec h.sW hs.w, Option.bind_some, F33_spec hs.d]
    simp only [Option.bind_some]
    rw [F34_spec h.sD hs.d]
    simp only [Option.bind_some, hasC_str]
    by_cases hd : k ∈ q.Dirty
    · have := hs.r
      simp only [hd, decide_true, if_true]
      rw [F37_spec h.sD hs.d, Option.bind_some, apI_t (by simp; omega)]; rfl
    · simp [hd]
  · simp [hk]
theorem F26_spec {q : Q} {n : Nat} (h : Inv q n) (hn : n ≤ 900000) (k : ByteArray) : F26 q k = some (tup (doneS k q)) := by
  have hs := h.sm hn
  unfold F26
  rw [F51_spec hs]
  simp only [Option.bind_some, tup]
  rw [F14_spec _ _ hs.w, Option.bind_some, nb_not]
  unfold doneS
  by_cases hk : k ∈ q.Working
  · simp only [hk, decide_true, Bool.not_true, Bool.false_eq_true, if_false, if_true, F53, Option.bind_some]
    rw [F18_spec h.sW hs.w, Option.bind_some, F14_spec _ _ hs.d, Option.bind_some]
    by_cases hd : k ∈ q.Dirty
    · have := hs.r
      simp only [hd, decide_true, if_true]
      rw [F18_spec h.sD hs.d, Option.bind_some, apI_t (by simp; omega)]; rfl
    · simp [hd]
  · simp [hk]
theorem inv_done (k : ByteArray) {q : Q} {n : Nat} (h : Inv q n) : Inv (doneS k q) (n + 1) := by
  have hl := h.len
  have h1 := rmS_len k q.Working
  have h2 := rmS_len k q.Dirty
  unfold doneS
  by_cases hk : k ∈ q.Working
  · rw [if_pos hk]
    by_cases hd : k ∈ q.Dirty
    · rw [if_pos hd]
      refine { h with len := by simp only [List.length_append, List.length_cons, List.length_nil]; omega, sW := rmS_pw h.sW, sD := rmS_pw h.sD, nR := ?_, dR := fun z hz hw => ?_, dW := fun z hz => ?_ }
      · show (q.Ready ++ [k]).Nodup
        rw [List.nodup_append]
        exact ⟨h.nR, by simp, fun a ha b hb e => by simp at hb; subst hb; subst e; exact h.dR a ha hk⟩
      · have hw := rmS_mem.1 hw
        rcases List.mem_append.1 hz with hz | hz
        · exact h.dR z hz hw.1
        · simp at hz; exact hw.2 hz
      · have hz := rmS_mem.1 hz
        exact rmS_mem.2 ⟨h.dW z hz.1, hz.2⟩
    · rw [if_neg hd]
      exact { h with len := by simp only; omega, sW := rmS_pw h.sW, dR := fun z hz hw => h.dR z hz (rmS_mem.1 hw).1, dW := fun z hz => rmS_mem.2 ⟨h.dW z hz, fun e => hd (e ▸ hz)⟩ }
  · rw [if_neg hk]; exact h.mono (by omega)
theorem done_W {k z : ByteArray} {q : Q} : z ∈ (doneS k q).Working ↔ z ∈ q.Working ∧ z ≠ k := by
  unfold doneS
  by_cases hk : k ∈ q.Working
  · rw [if_pos hk]
    by_cases hd : k ∈ q.Dirty
    · rw [if_pos hd]; exact rmS_mem
    · rw [if_neg hd]; exact rmS_mem
  · rw [if_neg hk]; exact ⟨fun h => ⟨h, fun e => hk (e ▸ h)⟩, fun h => h.1⟩

/-! After. -/
theorem insC_perm {α : Type} (c : α → Int) (x : α) : ∀ l, (insC c x l).Perm (x :: l)
  | [] => .refl _
  | y :: l => by
    unfold insC
    split
    · exact ((insC_perm c x l).cons y).trans (.swap x y l)
    · exact .refl _
def clT (t : Int) : Int := if 1000000000000 < (if t < 0 then 0 else t) then 1000000000000 else (if t < 0 then 0 else t)
theorem clT_r (t : Int) : 0 ≤ clT t ∧ clT t ≤ 1000000000000 := by unfold clT; split <;> split <;> omega
def tm (k : ByteArray) (at_ : Int) (l : List W) : Int := match l[fi k l]? with | some y => if y.At < clT at_ then y.At else clT at_ | none => clT at_
def afterS (k : ByteArray) (at_ : Int) (q : Q) : Q := ⟨q.Ready, q.Working, q.Dirty, insC (cT ⟨k, tm k at_ q.Later⟩) ⟨k, tm k at_ q.Later⟩ (flt k q.Later), q.Retries⟩
theorem cT_pos {x y : W} (h : ¬ cT x y < 0) (hk : y.Key ≠ x.Key) : ltW x y := by
  have h1 := mt (cT_neg x y).2 h
  unfold ltW at *
  by_cases h2 : y.At < x.At
  · exact (h1 (.inl h2)).elim
  · by_cases h3 : y.At = x.At
    · exact .inr ⟨h3.symm, lt_of_not (fun h4 => h1 (.inr ⟨h3, h4⟩)) hk⟩
    · exact .inl (by omega)
theorem noK_T {k : ByteArray} {t : Int} {l : List W} (h : ∀ y ∈ l, y.Key ≠ k) : hasC (cT ⟨k, t⟩) l = false := by
  cases hc : hasC (cT ⟨k, t⟩) l with
  | false => rfl
  | true =>
    obtain ⟨y, h1, h2⟩ := hasC_iff.1 hc
    exact (h y h1 ((cT_zero _ _).1 h2).2).elim
theorem F21_spec {q : Q} {n : Nat} (h : Inv q n) (hn : n ≤ 900000) (k : ByteArray) (at_ : Int) : F21 q k at_ = some (tup (afterS k at_ q)) := by
  have hs := h.sm hn
  unfold F21
  rw [F32_spec hs]
  simp only [Option.bind_some, tup, F43]
  rw [F46_spec _ _ hs.l]
  simp only [Option.bind_some]
  have key : ∀ t : Int, (F39 (flt k q.Later)).bind (fun t8 => (F42 ((⟨k, t⟩ : WorkItem)) t8).bind fun t9 => some ((q.Ready, q.Working, q.Dirty, t9, q.Retries))) = some (q.Ready, q.Working, q.Dirty, insC (cT ⟨k, t⟩) ⟨k, t⟩ (flt k q.Later), q.Retries) := by
    intro t
    have hl : (flt k q.Later).length ≤ 1000000 := Nat.le_trans (flt_len _ _) hs.l
    rw [F39_spec hl, Option.bind_some]
    unfold F42
    have hsl : (flt k q.Later).Pairwise ltW := h.sL.sublist List.filter_sublist
    rw [F41_spec hsl hl, Option.bind_some]
    simp only [noK_T (flt_ne k q.Later), Bool.false_eq_true, if_false]
    rw [insI_C _ hl]; rfl
  have hcl : (if 1000000000000 < (if at_ < 0 then 0 else at_) then 1000000000000 else (if at_ < 0 then 0 else at_)) = clT at_ := rfl
  simp only [hcl]
  unfold afterS tm
  by_cases hf : fi k q.Later < q.Later.length
  · have hlen := hs.l
    simp only [hf, if_true]
    rw [if_pos (by omega), rdI_at hf, List.getElem?_eq_getElem hf]
    simp only [Option.bind_some]
    rw [wrapN (by omega)]
    have hd : delI q.Later (fi k q.Later : Int) ((fi k q.Later + 1 : Nat) : Int) = some (flt k q.Later) := by
      unfold delI
      rw [if_pos (by omega), Int.toNat_natCast, Int.toNat_natCast, fi_del h.uL hf]
    rw [hd]
    simp only [Option.bind_some]
    exact key _
  · simp only [hf, if_false]
    rw [if_neg (by omega), List.getElem?_eq_none (by omega)]
    simp only [Option.bind_some]
    have := key (clT at_)
    rw [flt_none (fi_none k hf)] at this ⊢
    exact this
theorem F24_spec {q : Q} {n : Nat} (h : Inv q n) (hn : n ≤ 900000) (k : ByteArray) (at_ : Int) : F24 q k at_ = some (tup (afterS k at_ q)) := by
  have hs := h.sm hn
  unfold F24
  rw [F51_spec hs]
  simp only [Option.bind_some, tup, F54]
  rw [F55_spec _ _ hs.l]
  have hcl : (if 1000000000000 < (if at_ < 0 then 0 else at_) then 1000000000000 else (if at_ < 0 then 0 else at_)) = clT at_ := rfl
  simp only [hcl, Option.bind_some]
  have key : ∀ t : Int, (F57 q.Later k).bind (fun t6 => (F56 t6 ((⟨k, t⟩ : WorkItem)) true).bind fun t7 => some ((q.Ready, q.Working, q.Dirty, t7, q.Retries))) = some (q.Ready, q.Working, q.Dirty, insC (cT ⟨k, t⟩) ⟨k, t⟩ (flt k q.Later), q.Retries) := by
    intro t
    have hl : (flt k q.Later).length ≤ 1000000 := Nat.le_trans (flt_len _ _) hs.l
    rw [F57_spec _ _ hs.l, Option.bind_some, F56_spec true ⟨k, t⟩ (flt k q.Later) (cT ⟨k, t⟩) (fun _ _ => rfl) ?_ (fun a ha => flt_ne k _ a ha) hl]
    · rfl
    · exact (S_tim (h.sL.sublist List.filter_sublist) ⟨k, t⟩).imp fun {a b} hab hc => hab (by omega)
  unfold afterS tm
  cases hg : q.Later[fi k q.Later]? with
  | none =>
    simp only [Bool.false_eq_true, if_false, Option.bind_some]
    exact key _
  | some y =>
    simp only [if_true, Option.bind_some]
    exact key _
theorem tm_r {k : ByteArray} {at_ : Int} {l : List W} (h : ∀ x ∈ l, 0 ≤ x.At ∧ x.At ≤ 1000000000000) : 0 ≤ tm k at_ l ∧ tm k at_ l ≤ 1000000000000 := by
  have := clT_r at_
  unfold tm
  cases hg : l[fi k l]? with
  | none => exact this
  | some y =>
    have := h y (List.mem_of_getElem? hg)
    simp only
    split <;> omega
theorem inv_after (k : ByteArray) (at_ : Int) {q : Q} {n : Nat} (h : Inv q n) : Inv (afterS k at_ q) (n + 1) := by
  have hl := h.len
  have hf := flt_len k q.Later
  unfold afterS
  have ht := tm_r (k := k) (at_ := at_) h.bL
  generalize tm k at_ q.Later = t at *
  refine ⟨by simp only [insC_len]; omega, h.sW, h.sD, ?_, ?_, fun z hz => ?_, h.sT, h.bT, h.nR, h.dR, h.dW⟩
  · have hsl : (flt k q.Later).Pairwise ltW := h.sL.sublist List.filter_sublist
    exact insC_pw (R := ltW) (fun _ _ _ => ltW_trans) (fun y _ hc => (cT_neg _ y).1 hc) (fun y hy hc => cT_pos hc (flt_ne k _ y hy)) hsl
  · show Uq _
    unfold Uq
    rw [(insC_perm _ _ _).pairwise_iff (fun {a b} => Ne.symm)]
    have hul : (flt k q.Later).Pairwise fun a b => a.Key ≠ b.Key := h.uL.sublist List.filter_sublist
    exact List.pairwise_cons.2 ⟨fun y hy e => flt_ne k _ y hy e.symm, hul⟩
  · rcases (insC_mem _ _ _ _).1 hz with e | hz
    · rw [e]; exact ht
    · exact h.bL z (List.mem_filter.1 hz).1
end Go.Proofs.Ytpgonamdmlgifaa
