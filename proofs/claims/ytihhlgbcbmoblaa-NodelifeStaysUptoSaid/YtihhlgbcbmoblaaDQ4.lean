/- The plain laws, part 4. -/
import Derived.Test.YtihhlgbcbmoblaaDQ3
set_option linter.unusedVariables false
set_option linter.unusedSimpArgs false
namespace Go.Proofs.Ytihhlgbcbmoblaa
open Go Go.Fw
set_option maxRecDepth 100000

theorem clT_mono {a b : Int} (h : a ≤ b) : clT a ≤ clT b := by unfold clT; (repeat' split) <;> omega
theorem lvs_mono {ns : List Node} {p : Pod} {a b : Int} (h : a ≤ b) (hl : lvs ns a p = true) : lvs ns b p = true := by
  have := clT_mono h
  unfold lvs at *
  cases hf : fnd ns p with
  | none => rw [hf] at hl; cases hl
  | some n =>
    rw [hf] at hl
    simp only [Bool.and_eq_true, decide_eq_true_eq] at *
    exact ⟨hl.1, hl.2.1, by omega⟩
theorem lft_mono {ns : List Node} {ps : List Pod} {a b : Int} (h : a ≤ b) {k : ByteArray} (hk : k ∈ lft ns ps a) : k ∈ lft ns ps b := by
  rw [lft_mem] at *
  obtain ⟨h1, p, h2, h3, h4⟩ := hk
  exact ⟨h1, p, h2, lvs_mono h h3, h4⟩
theorem F18_l1_spec (x : ByteArray) : ∀ (l : List ByteArray) (i : Nat), F18_l1 x l i = some (if x ∈ l then .inl true else .inr ())
  | [], i => by simp [F18_l1]
  | y :: l, i => by
    rw [F18_l1]
    by_cases h : y = x
    · rw [if_pos h, if_pos (by simp [h])]; rfl
    · rw [if_neg h, F18_l1_spec x l (i + 1)]
      simp [Ne.symm h]
theorem F18_spec (l : List ByteArray) (x : ByteArray) (hb : l.length ≤ 2000000) : F18 l x = some (decide (x ∈ l)) := by
  unfold F18
  rw [ck_t ⟨Nat.zero_le _, by omega⟩, Option.bind_some, F18_l1_spec]
  by_cases h : x ∈ l <;> simp [h]
theorem F20_l1_spec (k : ByteArray) : ∀ (l : List Pod) (i c : Nat), (∀ p ∈ l, Sp p) → c + l.length ≤ 1999990 → F20_l1 k l i (c : Int) = some (((c + (l.filter fun p => decide (kf p.Meta = k)).length : Nat)) : Int)
  | [], i, c, _, _ => by simp [F20_l1]
  | p :: l, i, c, hp, hl => by
    simp only [List.length_cons] at hl
    rw [F20_l1, F19_spec (hp p (List.mem_cons_self ..))]
    simp only [Option.bind_some]
    have e1 : IntKind.i64.wrap ((c : Int) + 1) = ((c + 1 : Nat) : Int) := wrapN (by omega)
    have hp2 : ∀ q ∈ l, Sp q := fun q hq => hp q (List.mem_cons_of_mem _ hq)
    by_cases h : kf p.Meta = k
    · rw [if_pos h, Option.bind_some, e1, F20_l1_spec k l (i + 1) (c + 1) hp2 (by omega), List.filter_cons_of_pos (by simp [h])]
      congr 2; simp; omega
    · rw [if_neg h, Option.bind_some, F20_l1_spec k l (i + 1) c hp2 (by omega), List.filter_cons_of_neg (by simp [h])]
theorem F20_spec {ps : List Pod} (hp : ∀ p ∈ ps, Sp p) (h : ps.length ≤ 1999000) (k : ByteArray) : F20 ps k = some (decide (1 < (ps.filter fun p => decide (kf p.Meta = k)).length)) := by
  unfold F20
  rw [ck_t ⟨Nat.zero_le _, by omega⟩, Option.bind_some]
  have := F20_l1_spec k ps 0 0 hp (by omega)
  rw [show F20_l1 k ps 0 0 = _ from this]
  simp only [Option.bind_some, Nat.zero_add]
  congr 1; exact decide_eq_decide.2 (by omega)
theorem F6_l8_spec (a b : List ByteArray) (hb : b.length ≤ 2000000) (h : ∀ k ∈ a, k ∈ b) : ∀ n i, a.length = i + n → F6_l8 a b (a.drop i) i = some (.inr ())
  | 0, i, hi => by rw [List.drop_of_length_le (by omega)]; rfl
  | n + 1, i, hn => by
    have hi : i < a.length := by omega
    rw [List.drop_eq_getElem_cons hi, F6_l8, rdI_at hi]
    simp only [Option.bind_some]
    rw [F18_spec _ _ hb]
    have := h _ (List.getElem_mem hi)
    simp only [this, decide_true, Option.bind_some, nb, Bool.not_true, Bool.false_eq_true, if_false]
    exact F6_l8_spec a b hb h n (i + 1) (by omega)
theorem F6_l14_spec : ∀ (l : List Node) (i : Nat) (b : Bool), F6_l14 l i b = some (b || l.any (·.Ready))
  | [], i, b => by simp [F6_l14]
  | y :: l, i, b => by
    rw [F6_l14]
    cases b with
    | true => simp only [if_true, Option.bind_some]; rw [F6_l14_spec l (i + 1)]; simp
    | false => simp only [Bool.false_eq_true, if_false, Option.bind_some]; rw [F6_l14_spec l (i + 1)]; simp
/-- A pod that bears everything. -/
def bear : Toleration := ⟨(⟨#[]⟩ : ByteArray), (⟨#[]⟩ : ByteArray), true, 0, (-1)⟩
def calm (p : Pod) : Pod := ⟨p.Meta, (⟨p.Spec.Node, p.Spec.Priority, p.Spec.Restart, p.Spec.Grace, p.Spec.Containers, p.Spec.NodeSelector, p.Spec.NodeTerms, p.Spec.PodTerms, p.Spec.Spread, [bear]⟩ : PodSpec), p.Status⟩
theorem F6_l22_spec : ∀ (l : List Pod) (i : Nat) (o : List Pod), o.length + l.length ≤ 1999990 → F6_l22 l i o = some (o ++ l.map calm)
  | [], i, o, _ => by simp [F6_l22]
  | p :: l, i, o, hl => by
    simp only [List.length_cons] at hl
    rw [F6_l22, apI_t (by simp; omega)]
    simp only [Option.bind_some]
    rw [F6_l22_spec l (i + 1) _ (by simp; omega), List.map_cons, List.append_assoc]; rfl
theorem bear_tol (t : Taint) : tol bear t = true := by
  unfold tol; exact decide_eq_true ⟨.inl rfl, .inl rfl, .inl rfl⟩
theorem ev_bear : ∀ (l : List Taint) , evL [bear] l 0 false = (0, false)
  | [] => rfl
  | x :: l => by
    have h : lvT x [bear] = (0, false) := by
      unfold lvT
      rw [List.filter_cons_of_pos (p := fun y => tol y x) (bear_tol x)]; rfl
    rw [evL, h, if_neg (by simp)]
    exact ev_bear l
theorem lvs_calm (ns : List Node) (now : Int) (p : Pod) : lvs ns now (calm p) = false := by
  unfold lvs
  cases fnd ns (calm p) with
  | none => rfl
  | some n =>
    have : (calm p).Spec.Tolerations = [bear] := rfl
    simp only [this, ev_bear, Bool.false_and, Bool.and_false]
theorem lft_calm (ns : List Node) (ps : List Pod) (now : Int) : lft ns (ps.map calm) now = [] := by
  have : (ps.map calm).filter (lvs ns now) = [] := by
    rw [List.filter_eq_nil_iff]
    intro q hq
    obtain ⟨p, _, e⟩ := List.mem_map.1 hq
    rw [← e, lvs_calm]; simp
  unfold lft
  rw [this]
  split
  · have h1 := compL_len (sortL [])
    rw [sortL_len] at h1
    exact List.eq_nil_of_length_eq_zero (by simpa using h1)
  · rfl
theorem two_le {α : Type} {l : List α} {q : α → Bool} {a b : α} (ha : a ∈ l) (hb : b ∈ l) (hq : q a = true) (hq' : q b = true) (hne : a ≠ b) : 1 < (l.filter q).length := by
  have h1 := List.mem_filter.2 ⟨ha, hq⟩
  have h2 := List.mem_filter.2 ⟨hb, hq'⟩
  generalize l.filter q = m at *
  match m, h1, h2 with
  | [], h1, _ => cases h1
  | [c], h1, h2 =>
    rw [List.mem_singleton] at h1 h2
    exact (hne (h1.trans h2.symm)).elim
  | _ :: _ :: _, _, _ => simp
theorem F6_l27_spec {ns : List Node} {ps : List Pod} (h : Sl ns ps) (now : Int) : ∀ (l : List Pod) (i : Nat), (∀ p ∈ l, Sp p) → F6_l27 (gon ns ps) (lft ns ps now) ps l i = some (.inr ())
  | [], i, _ => rfl
  | p :: l, i, hp => by
    have hps := h.p
    have l1 := lft_len ns ps now
    have l2 := gon_len ns ps
    rw [F6_l27, F19_spec (hp p (List.mem_cons_self ..))]
    simp only [Option.bind_some]
    rw [F18_spec _ _ (by omega), F18_spec _ _ (by omega), F20_spec h.s hps]
    have ih := F6_l27_spec h now l (i + 1) fun q hq => hp q (List.mem_cons_of_mem _ hq)
    simp only [Option.bind_some]
    by_cases h1 : kf p.Meta ∈ gon ns ps
    · simp only [h1, decide_true, if_true]
      by_cases h2 : kf p.Meta ∈ lft ns ps now
      · simp only [h2, decide_true, if_true]
        obtain ⟨a, a1, a2, a3⟩ := gon_mem.1 h1
        obtain ⟨_, b, b1, b2, b3⟩ := lft_mem.1 h2
        have hne : a ≠ b := by
          intro e
          subst e
          unfold gnd at a2
          unfold lvs at b2
          cases hf : fnd ns a with
          | none => rw [hf] at b2; cases b2
          | some n => rw [hf] at a2; simp at a2
        have := two_le (q := fun q => decide (kf q.Meta = kf p.Meta)) a1 b1 (by simpa using a3) (by simpa using b3) hne
        simp only [this, decide_true, nb, Bool.not_true, Bool.false_eq_true, if_false]
        exact ih
      · simp only [h2, decide_false, Bool.false_eq_true, if_false, Option.bind_some]
        exact ih
    · simp only [h1, decide_false, Bool.false_eq_true, if_false, Option.bind_some]
      exact ih
theorem NodelifeStays_pure : NodelifeStays.Pure := by
  intro ns ps now now2 _ _ _ _ hw
  have h := sl_of (ns := ns) (ps := ps) (by omega)
  have hp := h.p
  have hn := h.n
  unfold F6 F11
  rw [F7_true]
  have hb : ∃ b : Bool, ((if (ns.length : Int) ≤ 20 then some (decide ((ps.length : Int) ≤ 50)) else some false) : Option Bool) = some b := by
    split <;> exact ⟨_, rfl⟩
  obtain ⟨b, hb⟩ := hb
  rw [hb]
  have nt : nb true = false := rfl
  have nf : nb false = true := rfl
  simp only [Option.bind_some]
  by_cases hc : now2 < now
  · cases b <;> simp [hc, nt, nf]
  cases b with
  | false => rfl
  | true =>
    simp only [nt, Bool.false_eq_true, if_false, hc, decide_false, Option.bind_some]
    have l1 := lft_len ns ps now
    have l2 := lft_len ns ps now2
    have l3 := gon_len ns ps
    rw [F13_spec h, F13_spec h]
    simp only [Option.bind_some]
    rw [ck_t ⟨Nat.zero_le _, by omega⟩]
    simp only [Option.bind_some]
    have e1 := F6_l8_spec (lft ns ps now) (lft ns ps now2) (by omega) (fun k hk => lft_mono (by omega) hk) (lft ns ps now).length 0 (by omega)
    rw [List.drop_zero] at e1
    rw [e1]
    simp only [Option.bind_some]
    rw [ck_t ⟨Nat.zero_le _, by omega⟩]
    simp only [Option.bind_some]
    rw [F6_l14_spec]
    simp only [Option.bind_some, Bool.false_or]
    have e2 : ((if nb (ns.any (·.Ready)) = true then some (decide (0 < ((lft ns ps now2).length : Int))) else some false) : Option Bool) = some false := by
      cases ha : ns.any (·.Ready) with
      | true => rfl
      | false =>
        have : lft ns ps now2 = [] := by unfold lft; rw [ha]; rfl
        rw [this]; rfl
    rw [e2]
    simp only [Option.bind_some, Bool.false_eq_true, if_false]
    rw [ck_t ⟨Nat.zero_le _, by omega⟩]
    simp only [Option.bind_some]
    rw [F6_l22_spec ps 0 [] (by simp; omega)]
    simp only [Option.bind_some, List.nil_append]
    rw [F15_spec h]
    simp only [Option.bind_some]
    rw [F6_l27_spec h now ps 0 h.s]
    simp only [Option.bind_some, if_true]
    have hs2 : Sl ns (ps.map calm) := by
      refine ⟨hn, by rw [List.length_map]; exact hp, h.t, fun q hq => ?_⟩
      obtain ⟨p, p1, e⟩ := List.mem_map.1 hq
      have := h.s p p1
      rw [← e]
      exact ⟨this.k1, this.k2, this.k3, this.o, by show ([bear] : List Toleration).length ≤ _; simp⟩
    rw [F13_spec hs2, lft_calm]; rfl
end Go.Proofs.Ytihhlgbcbmoblaa
