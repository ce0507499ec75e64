/- The plain laws, part 6. -/
import Derived.Test.YtkgjaknjpdkaeaaQ5
set_option linter.unusedVariables false
set_option linter.unusedSimpArgs false
namespace Go.Proofs.Ytkgjaknjpdkaeaa
open Go Go.Fw
set_option maxRecDepth 100000

def cnt (l : List Bool) : Nat := (l.filter fun b => b).length
theorem F5_l10_spec : ∀ (l : List Bool) (i c : Nat), c + l.length ≤ 1999990 → F5_l10 l i (c : Int) = some (((c + cnt l : Nat)) : Int)
  | [], i, c, _ => by simp [F5_l10, cnt]
  | b :: l, i, c, h => by
    simp only [List.length_cons] at h
    rw [F5_l10]
    cases b with
    | true =>
      have e1 : IntKind.i64.wrap ((c : Int) + 1) = ((c + 1 : Nat) : Int) := wrapN (by omega)
      simp only [if_true, Option.bind_some, e1]
      rw [F5_l10_spec l (i + 1) (c + 1) (by omega)]
      congr 2; simp [cnt]; omega
    | false =>
      simp only [Bool.false_eq_true, if_false, Option.bind_some]
      rw [F5_l10_spec l (i + 1) c (by omega)]; rfl
theorem cnt_le (l : List Bool) : cnt l ≤ l.length := List.length_filter_le ..
theorem cap_id {n m : Int} (h : 0 ≤ n) (h' : n ≤ m) : cap n m = n := by unfold cap; rw [if_neg (by rw [if_neg (by omega)]; omega), if_neg (by omega)]
theorem dn_pred (c : Nat) (h : c ≤ 1000) : dn ((c + 1 : Nat) : Int) = (c : Int) := by
  unfold dn
  rw [show IntKind.i64.wrap (((c + 1 : Nat) : Int) - 1) = (c : Int) by rw [wrapI (by omega) (by omega)]; omega, if_neg (by omega)]
/-- The first of the names taken away. -/
theorem drop_one {N : List ByteArray} (hN : N.Pairwise lt) {i : Nat} (hi : i < N.length) : (N.drop i).filter (fun y => !decide (y = N[i])) = N.drop (i + 1) := by
  rw [List.drop_eq_getElem_cons hi, List.filter_cons_of_neg (by simp)]
  refine List.filter_eq_self.2 fun z hz => ?_
  have hp := List.pairwise_iff_getElem.1 hN
  obtain ⟨j, hj, e⟩ := List.mem_iff_getElem.1 hz
  rw [List.length_drop] at hj
  rw [List.getElem_drop] at e
  have := hp i (i + 1 + j) hi (by omega) (by omega)
  rw [e] at this
  simpa using fun c : z = N[i] => lt_irrefl z (by rw [← c] at this; exact this)
/-- What is left to be seen. -/
def left (k : ByteArray) (N : List ByteArray) (t : Int) (c i : Nat) : E := ⟨k, (c : Int), N.drop i, t⟩
theorem left_nth {k : ByteArray} {N : List ByteArray} {t : Int} {c i : Nat} : nth (left k N t c i) = decide (c = 0 ∧ N.length ≤ i) := by
  unfold nth left
  rw [Bool.eq_iff_iff]
  simp only [Bool.and_eq_true, decide_eq_true_eq, List.isEmpty_iff, List.drop_eq_nil_iff]
  exact ⟨fun ⟨h1, h2⟩ => ⟨by omega, h2⟩, fun ⟨h1, h2⟩ => ⟨by omega, h2⟩⟩
theorem met_left {l : List E} (hs : l.Pairwise ltK) {k : ByteArray} {N : List ByteArray} {t : Int} {c i : Nat} (hn : nth (left k N t c i) = false) (now to : Int) :
    metL (putE (left k N t c i) l) k now to = decide (cap to 1000000000000 < IntKind.i64.wrap (cap now 1000000000000 - t)) := by
  unfold metL
  have := putE_find (left k N t c i) hs
  rw [hn] at this
  rw [show (putE (left k N t c i) l).find? (isK k) = _ from this]; rfl
theorem F5_l20_spec {l : List E} (hV : Vd l) (k : ByteArray) {N : List ByteArray} (hN : N.Pairwise lt) (hNl : N.length ≤ 1000) {t : Int} (h0 : 0 ≤ t) (h1 : t ≤ 999999999900) : ∀ (os : List Bool) (j c i : Nat), cnt os = c → os.length = c + (N.length - i) → i ≤ N.length → c ≤ 1000 →
    F5_l20 N k t os j (putE (left k N t c i) l) (i : Int) = some (.inr (putE (left k N t 0 N.length) l))
  | [], j, c, i, hc, hl, hi, _ => by
    have hc0 : c = 0 := by rw [← hc]; rfl
    simp only [List.length_nil] at hl
    have hi0 : i = N.length := by omega
    rw [F5_l20, hc0, hi0]
  | b :: os, j, c, i, hc, hl, hi, hcl => by
    have hn : nth (left k N t c i) = false := by
      rw [left_nth]
      simp only [List.length_cons] at hl
      simp; omega
    have hg : G (putE (left k N t c i) l) := putE_G hV (by show (N.drop i).length ≤ _; rw [List.length_drop]; omega)
    have hgn := hg.n
    have w1 : IntKind.i64.wrap (t + 50) = t + 50 := wrapI (by omega) (by omega)
    have w2 : IntKind.i64.wrap (t + 51) = t + 51 := wrapI (by omega) (by omega)
    have c0 := cap_id (n := t) (m := 1000000000000) (by omega) (by omega)
    have c1 := cap_id (n := t + 50) (m := 1000000000000) (by omega) (by omega)
    have c2 := cap_id (n := t + 51) (m := 1000000000000) (by omega) (by omega)
    have c5 : cap 50 1000000000000 = 50 := by decide
    have q0 : IntKind.i64.wrap (t - t) = 0 := by rw [wrapI (by omega) (by omega)]; omega
    have q1 : IntKind.i64.wrap (t + 50 - t) = 50 := by rw [wrapI (by omega) (by omega)]; omega
    have q2 : IntKind.i64.wrap (t + 51 - t) = 51 := by rw [wrapI (by omega) (by omega)]; omega
    have d0 : ¬ ((50 : Int) < 0) := by decide
    have d1 : ¬ ((50 : Int) < 50) := by decide
    have d2 : (50 : Int) < 51 := by decide
    rw [F5_l20, F16_spec (by omega), F16_spec (by omega), F16_spec (by omega)]
    rw [met_left hV.s hn, met_left hV.s hn, met_left hV.s hn, w1, w2, c0, c1, c2, c5, q0, q1, q2]
    simp only [d0, d1, d2, decide_false, decide_true, Option.bind_some, Bool.false_eq_true, if_false, nb, Bool.not_true]
    have hfind := putE_find (left k N t c i) hV.s
    rw [hn] at hfind
    simp only [Bool.false_eq_true, if_false] at hfind
    have hk : (left k N t c i).Key = k := rfl
    rw [hk] at hfind
    simp only [List.length_cons] at hl
    cases b with
    | true =>
      simp only [if_true]
      have hc1 : cnt os + 1 = c := by rw [← hc]; simp [cnt]
      rw [F12_spec hg k]
      simp only [Option.bind_some]
      have hu : upd fC k (putE (left k N t c i) l) = putE (left k N t (cnt os) i) l := by
        unfold upd
        rw [hfind]
        have e : fC (left k N t c i) = left k N t (cnt os) i := by
          unfold fC left
          simp only
          rw [← hc1, dn_pred _ (by omega)]
        simp only
        rw [e]
        exact putE_putE (x := left k N t c i) (x' := left k N t (cnt os) i) rfl hV.s
      rw [hu]
      exact F5_l20_spec hV k hN hNl h0 h1 os (j + 1) (cnt os) i rfl (by omega) hi (by omega)
    | false =>
      simp only [Bool.false_eq_true, if_false]
      have hc1 : cnt os = c := by rw [← hc]; simp [cnt]
      have hcl2 := cnt_le os
      have hil : i < N.length := by omega
      rw [rdI_at hil]
      simp only [Option.bind_some]
      rw [F14_spec hg k]
      simp only [Option.bind_some]
      have e1 : IntKind.i64.wrap ((i : Int) + 1) = ((i + 1 : Nat) : Int) := wrapN (by omega)
      have hu : upd (fD N[i]) k (putE (left k N t c i) l) = putE (left k N t c (i + 1)) l := by
        unfold upd
        rw [hfind]
        have e : fD N[i] (left k N t c i) = left k N t c (i + 1) := by
          unfold fD left
          simp only
          rw [drop_one hN hil]
        simp only
        rw [e]
        exact putE_putE (x := left k N t c i) (x' := left k N t c (i + 1)) rfl hV.s
      rw [hu, e1]
      exact F5_l20_spec hV k hN hNl h0 h1 os (j + 1) c (i + 1) hc1 (by omega) (by omega) hcl

theorem ExpectSettles_pure : ExpectSettles.Pure := by
  intro l k ds os now _ _ _ _ _ hw
  have hds : ds.length ≤ 1048576 := len_of (n := 0) (by omega)
  unfold F5
  rw [F18_spec (by omega)]
  simp only [Option.bind_some]
  obtain ⟨v, hb, hv⟩ := F7_spec (l := l)
  rw [hb, F8_true]
  simp only [Option.bind_some, nb_not]
  cases v with
  | false => rfl
  | true =>
    have hV := hv rfl
    simp only [Bool.not_true, Bool.false_eq_true, if_false]
    by_cases h1 : 20 < (ds.length : Int)
    · simp only [h1, if_true, Option.bind_some]
    by_cases h2 : 40 < (os.length : Int)
    · simp only [h1, h2, if_true, if_false, Option.bind_some]
    by_cases h3 : now < 0
    · simp only [h1, h2, h3, if_true, if_false, Option.bind_some]
    by_cases h4 : 999999999900 < now
    · simp only [h1, h2, h3, h4, if_false, Option.bind_some, decide_true, if_true]
    simp only [h1, h2, h3, h4, if_false, Option.bind_some, decide_false, Bool.false_eq_true]
    rw [ck_t ⟨Nat.zero_le _, by omega⟩]
    simp only [Option.bind_some]
    have h10 := F5_l10_spec os 0 0 (by omega)
    rw [show F5_l10 os 0 0 = _ from h10]
    simp only [Option.bind_some, Nat.zero_add]
    have hcl := cnt_le os
    have hw1 : IntKind.i64.wrap ((os.length : Int) - (cnt os : Int)) = (os.length : Int) - (cnt os : Int) := wrapI (by omega) (by omega)
    rw [hw1]
    by_cases h5 : 20 < (cnt os : Int)
    · simp only [h5, if_true, Option.bind_some]
    by_cases h6 : (os.length : Int) - (cnt os : Int) = ((names ds).length : Int)
    · simp only [h5, h6, if_false, not_true_eq_false, decide_false, Option.bind_some, Bool.false_eq_true]
      have hnl := names_len ds
      rw [F10_spec hV.toG k _ (by omega) now]
      simp only [Option.bind_some]
      have hE : wantE k (cnt os : Int) ds now = left k (names ds) now (cnt os) 0 := by
        unfold wantE left
        rw [cap_id (by omega) (by omega), cap_id (by omega) (by omega), List.drop_zero]
      rw [hE]
      have h20 := F5_l20_spec hV k (names_pw ds) (by omega) (t := now) (by omega) (by omega) os 0 (cnt os) 0 rfl (by omega) (Nat.zero_le _) (by omega)
      rw [show F5_l20 (names ds) k now os 0 (putE (left k (names ds) now (cnt os) 0) l) 0 = _ from h20]
      simp only [Option.bind_some, if_true]
      have hlen := putE_len (left k (names ds) now 0 (names ds).length) l
      have hn30 := hV.n30
      rw [F16_spec (by omega)]
      have hm : metL (putE (left k (names ds) now 0 (names ds).length) l) k now 50 = true := by
        unfold metL
        have := putE_find (left k (names ds) now 0 (names ds).length) hV.s
        have hn : nth (left k (names ds) now 0 (names ds).length) = true := by rw [left_nth]; simp
        rw [hn] at this
        rw [show (putE (left k (names ds) now 0 (names ds).length) l).find? (isK k) = _ from this]; rfl
      rw [hm]; rfl
    · simp only [h5, h6, if_false, not_false_eq_true, decide_true, Option.bind_some, if_true]
end Go.Proofs.Ytkgjaknjpdkaeaa
