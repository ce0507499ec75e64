/- The plain laws, part 5. -/
import Derived.Test.YtkgjaknjpdkaeaaQ4
set_option linter.unusedVariables false
set_option linter.unusedSimpArgs false
namespace Go.Proofs.Ytkgjaknjpdkaeaa
open Go Go.Fw
set_option maxRecDepth 100000

/-! Changes of one key, as a map over the list. -/
def stp (f : E → E) (k : ByteArray) (e : E) : Option E := if e.Key = k then (if nth (f e) = true then none else some (f e)) else some e
theorem stp_id {f : E → E} {k : ByteArray} : ∀ {l : List E}, (∀ e ∈ l, e.Key ≠ k) → l.filterMap (stp f k) = l
  | [], _ => rfl
  | y :: l, h => by
    rw [List.filterMap_cons, stp, if_neg (h y (List.mem_cons_self ..)), stp_id fun e he => h e (List.mem_cons_of_mem _ he)]
theorem upd_fm {f : E → E} (hf : ∀ e, (f e).Key = e.Key) (k : ByteArray) : ∀ {l : List E}, l.Pairwise ltK → upd f k l = l.filterMap (stp f k)
  | [], _ => rfl
  | y :: l, h => by
    have h2 := List.pairwise_cons.1 h
    have ih := upd_fm hf k h2.2
    unfold upd at ih ⊢
    by_cases e : y.Key = k
    · have hl : ∀ z ∈ l, z.Key ≠ k := fun z hz c => lt_irrefl k (by have := h2.1 z hz; unfold ltK at this; rwa [e, c] at this)
      rw [List.find?_cons_of_pos (by simp [isK, e]), List.filterMap_cons, stp, if_pos e, stp_id hl]
      simp only
      rw [putE_cons, hf, if_neg (lt_irrefl _), if_pos rfl]
      unfold one
      by_cases hn : nth (f y) = true
      · rw [if_pos hn, if_pos hn]; rfl
      · rw [if_neg hn, if_neg hn]; rfl
    · rw [List.find?_cons_of_neg (by simp [isK, e]), List.filterMap_cons, stp, if_neg e, ← ih]
      cases hfi : l.find? (isK k) with
      | none => rfl
      | some m =>
        have hk := find_key hfi
        have hym := h2.1 m (mem_of_find hfi)
        simp only
        rw [putE_cons, hf, if_pos (show lt y.Key m.Key from hym)]
theorem stp_pw {f : E → E} (hf : ∀ e, (f e).Key = e.Key) (k : ByteArray) {l : List E} (h : l.Pairwise ltK) : (l.filterMap (stp f k)).Pairwise ltK := by
  rw [List.pairwise_filterMap]
  have hk : ∀ {a b : E}, stp f k a = some b → b.Key = a.Key := by
    intro a b h
    unfold stp at h
    split at h
    · split at h
      · cases h
      · cases h; exact hf a
    · cases h; rfl
  refine h.imp fun {a b} hab a' ha' b' hb' => ?_
  unfold ltK at *
  rw [hk ha', hk hb']; exact hab
theorem updG2 {l : List E} (h : G l) {f : E → E} (hf : ∀ e, (f e).Key = e.Key) (hd : ∀ e, (f e).Deletes.length ≤ e.Deletes.length) (k : ByteArray) : G (upd f k l) := by
  rw [upd_fm hf k h.s]
  refine ⟨stp_pw hf k h.s, Nat.le_trans (List.length_filterMap_le ..) h.n, fun e he => ?_⟩
  obtain ⟨a, ha, hae⟩ := List.mem_filterMap.1 he
  have := h.d a ha
  unfold stp at hae
  split at hae
  · split at hae
    · cases hae
    · cases hae; have := hd a; omega
  · cases hae; exact this
theorem fC_key (e : E) : (fC e).Key = e.Key := rfl
theorem fD_key (s : ByteArray) (e : E) : (fD s e).Key = e.Key := rfl
theorem dn_zero : dn 0 = 0 := by decide
theorem stp_comm (a b s : ByteArray) (e : E) : (stp (fD s) b e).bind (stp fC a) = (stp fC a e).bind (stp (fD s) b) := by
  by_cases hb : e.Key = b
  · by_cases ha : e.Key = a
    · have e1 : nth (fD s e) = true → nth (fC e) = true ∨ nth (fC e) = false ∧ nth (fD s (fC e)) = true := by
        intro h
        cases hc : nth (fC e) with
        | true => exact .inl rfl
        | false =>
          refine .inr ⟨rfl, ?_⟩
          unfold nth at h ⊢
          simp only [fD, fC, Bool.and_eq_true, decide_eq_true_eq] at h ⊢
          exact ⟨decide_eq_true (by have := of_decide_eq_true h.1; rw [this]; exact dn_zero), h.2⟩
      have e2 : nth (fC e) = true → nth (fD s e) = true ∨ nth (fD s e) = false ∧ nth (fC (fD s e)) = true := by
        intro h
        cases hc : nth (fD s e) with
        | true => exact .inl rfl
        | false =>
          refine .inr ⟨rfl, ?_⟩
          unfold nth at h ⊢
          simp only [fD, fC, Bool.and_eq_true, decide_eq_true_eq, List.isEmpty_iff] at h ⊢
          exact ⟨h.1, by rw [h.2]; rfl⟩
      have e3 : fC (fD s e) = fD s (fC e) := rfl
      unfold stp
      rw [if_pos hb, if_pos ha]
      cases h1 : nth (fD s e) with
      | true =>
        rw [if_pos rfl]
        rcases e1 h1 with h2 | ⟨h2, h3⟩
        · rw [h2]; rfl
        · rw [h2]
          simp only [Bool.false_eq_true, if_false, Option.bind_some, Option.bind_none]
          rw [if_pos (show (fC e).Key = b from hb), h3]; rfl
      | false =>
        simp only [Bool.false_eq_true, if_false, Option.bind_some]
        rw [if_pos (show (fD s e).Key = a from ha)]
        cases h2 : nth (fC e) with
        | true =>
          rcases e2 h2 with h3 | ⟨_, h3⟩
          · rw [h1] at h3; cases h3
          · rw [h3]; rfl
        | false =>
          simp only [Bool.false_eq_true, if_false, Option.bind_some]
          rw [if_pos (show (fC e).Key = b from hb), e3]
    · unfold stp
      rw [if_pos hb, if_neg ha]
      simp only [Option.bind_some]
      rw [if_pos hb]
      by_cases h1 : nth (fD s e) = true
      · rw [if_pos h1]; rfl
      · rw [if_neg h1]
        simp only [Option.bind_some]
        rw [if_neg (show ¬ (fD s e).Key = a from ha)]
  · unfold stp
    rw [if_neg hb]
    simp only [Option.bind_some]
    by_cases ha : e.Key = a
    · rw [if_pos ha]
      by_cases h1 : nth (fC e) = true
      · rw [if_pos h1]; rfl
      · rw [if_neg h1]
        simp only [Option.bind_some]
        rw [if_neg (show ¬ (fC e).Key = b from hb)]
    · rw [if_neg ha]
      simp only [Option.bind_some]
      rw [if_neg hb]
theorem upd_comm {l : List E} (h : G l) (a b s : ByteArray) : upd fC a (upd (fD s) b l) = upd (fD s) b (upd fC a l) := by
  rw [upd_fm (fD_key s) b h.s, upd_fm fC_key a h.s, upd_fm fC_key a (stp_pw (fD_key s) b h.s), upd_fm (fD_key s) b (stp_pw fC_key a h.s), List.filterMap_filterMap, List.filterMap_filterMap]
  congr 1
  funext e
  exact stp_comm a b s e
theorem upd_ne {f : E → E} (hf : ∀ e, (f e).Key = e.Key) (k : ByteArray) (l : List E) : (upd f k l).filter (ne k) = l.filter (ne k) := by
  unfold upd
  cases hfi : l.find? (isK k) with
  | none => rfl
  | some m =>
    have := putE_ne (f m) l
    rw [hf, find_key hfi] at this
    exact this

theorem F19_l1_spec (k : ByteArray) : ∀ (l : List E) (i : Nat) (o : List E), o.length + l.length ≤ 1999990 → F19_l1 k l i o = some (o ++ l.filter (ne k))
  | [], i, o, _ => by simp [F19_l1]
  | y :: l, i, o, h => by
    simp only [List.length_cons] at h
    rw [F19_l1]
    by_cases hy : y.Key = k
    · rw [if_neg (by simpa using hy)]
      simp only [Option.bind_some]
      rw [F19_l1_spec k l (i + 1) o (by omega), List.filter_cons_of_neg (by simp [ne, hy])]
    · rw [if_pos hy, apI_t (by simp; omega)]
      simp only [Option.bind_some]
      rw [F19_l1_spec k l (i + 1) _ (by simp; omega), List.filter_cons_of_pos (by simp [ne, hy])]
      simp
theorem F19_l7_eq (k : ByteArray) : ∀ (l : List E) (i : Nat) (o : List E), F19_l7 k l i o = F19_l1 k l i o
  | [], i, o => rfl
  | y :: l, i, o => by
    rw [F19_l7, F19_l1]
    congr 1
    funext o
    exact F19_l7_eq k l (i + 1) o
theorem F19_spec {a b : List E} (ha : G a) (hb : G b) {k : ByteArray} (h : a.filter (ne k) = b.filter (ne k)) : F19 a b k = some true := by
  have h1 := ha.n; have h2 := hb.n
  unfold F19
  rw [ck_t ⟨Nat.zero_le _, by omega⟩, Option.bind_some, F19_l1_spec k a 0 [] (by simp; omega)]
  simp only [Option.bind_some]
  rw [ck_t ⟨Nat.zero_le _, by omega⟩, Option.bind_some, F19_l7_eq, F19_l1_spec k b 0 [] (by simp; omega)]
  simp only [Option.bind_some, List.nil_append]
  have hl : (b.filter (ne k)).length ≤ b.length := List.length_filter_le ..
  rw [h, F9_same (by omega) (fun e he => by have := hb.d e (List.mem_filter.1 he).1; omega)]; rfl

theorem ExpectOthers_pure : ExpectOthers.Pure := by
  intro l a b s ds _ _ _ _ _ hw
  have hds : ds.length ≤ 1048576 := len_of (n := 0) (by omega)
  unfold F6
  obtain ⟨v, hb, hv⟩ := F7_spec (l := l)
  rw [hb, F8_true]
  simp only [Option.bind_some, nb_not]
  cases v with
  | false => rfl
  | true =>
    have hV := hv rfl
    have hG := hV.toG
    simp only [Bool.not_true, Bool.false_eq_true, if_false, Option.bind_some]
    by_cases h30 : 30 < (ds.length : Int)
    · simp [h30]
    · simp only [h30, decide_false, Bool.false_eq_true, if_false, if_true]
      have g1 := updG2 hG (fD_key s) (fD_len s) b
      have g2 := updG2 hG fC_key (fun e => Nat.le_refl _) a
      have g3 := updG2 g2 (fD_key s) (fD_len s) b
      have g4 := updG2 hG (fD_key s) (fD_len s) a
      rw [F14_spec hG b s]
      simp only [Option.bind_some]
      rw [F12_spec g1 a]
      simp only [Option.bind_some]
      rw [F12_spec hG a]
      simp only [Option.bind_some]
      rw [F14_spec g2 b s]
      simp only [Option.bind_some]
      rw [upd_comm hG a b s]
      have n3 := g3.n
      rw [F9_same (by omega) (fun e he => by have := g3.d e he; omega)]
      simp only [Option.bind_some, Bool.not_true, Bool.false_eq_true, if_false]
      rw [F19_spec g2 hG (upd_ne fC_key a l)]
      simp only [Option.bind_some, if_true]
      rw [F14_spec hG a s]
      simp only [Option.bind_some]
      rw [F19_spec g4 hG (upd_ne (fD_key s) a l)]
      simp only [Option.bind_some, if_true]
      rw [F10_spec hG a 3 (by omega) 5]
      simp only [Option.bind_some]
      have g5 := putE_G hV (x := wantE a 3 ds 5) (by have := names_len ds; show (names ds).length ≤ _; omega)
      rw [F19_spec (k := a) g5 hG (putE_ne (wantE a 3 ds 5) l)]; rfl
end Go.Proofs.Ytkgjaknjpdkaeaa
