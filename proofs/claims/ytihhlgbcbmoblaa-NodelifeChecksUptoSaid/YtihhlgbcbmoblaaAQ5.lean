/- The plain laws, part 5. -/
import Derived.Test.YtihhlgbcbmoblaaAQ4
set_option linter.unusedVariables false
set_option linter.unusedSimpArgs false
namespace Go.Proofs.Ytihhlgbcbmoblaa
open Go Go.Fw
set_option maxRecDepth 100000

/-! The reference's Check. -/
theorem F10_l5_spec (w : List Taint) (hw : w.length ≤ 2000000) : ∀ (xs : List Taint) (i : Nat) (o : List Taint), o.length + xs.length ≤ 1999990 → F10_l5 w xs i o = some (o ++ xs.filter fun x => !(mg x && !hs w x))
  | [], i, o, _ => by simp [F10_l5]
  | x :: xs, i, o, hl => by
    simp only [List.length_cons] at hl
    rw [F10_l5, F30_spec]
    simp only [Option.bind_some, nb_not]
    have key : ((if (!mg x) = true then some true else (F31 w x).bind fun t11 => some t11) : Option Bool) = some (!(mg x && !hs w x)) := by
      rw [F31_spec w x hw]
      cases mg x <;> cases hs w x <;> rfl
    have key2 : ((if nb (mg x) = true then some true else (F31 w x).bind fun t11 => some t11) : Option Bool) = some (!(mg x && !hs w x)) := key
    simp only [nb_not] at key2
    first | rw [key2] | rw [key]
    simp only [Option.bind_some]
    cases hk : (!(mg x && !hs w x)) with
    | true =>
      simp only [if_true]
      rw [apI_t (by simp; omega)]
      simp only [Option.bind_some]
      rw [F10_l5_spec w hw xs (i + 1) _ (by simp; omega), List.filter_cons_of_pos (by simpa using hk)]
      simp
    | false =>
      simp only [Bool.false_eq_true, if_false, Option.bind_some]
      rw [F10_l5_spec w hw xs (i + 1) _ (by omega), List.filter_cons_of_neg (by simpa using hk)]
theorem F10_l15_spec (w : List Taint) (n : Node) (hn : n.Taints.length ≤ 2000000) : ∀ (xs : List Taint) (i : Nat) (o : List Taint), w.drop i = xs → o.length + xs.length ≤ 1999990 → F10_l15 w n xs i o = some (o ++ xs.filter fun x => !hs n.Taints x)
  | [], i, o, _, _ => by simp [F10_l15]
  | x :: xs, i, o, hd, hl => by
    simp only [List.length_cons] at hl
    have hi : w[i]? = some x := by
      have := congrArg (·[0]?) hd
      simpa using this
    have hd2 : w.drop (i + 1) = xs := by
      have := congrArg (List.drop 1) hd
      simpa [List.drop_drop, Nat.add_comm] using this
    rw [F10_l15, rdI_nat, hi]
    simp only [Option.bind_some]
    rw [F31_spec _ _ hn]
    simp only [Option.bind_some]
    cases hk : hs n.Taints x with
    | true =>
      simp only [nb, Bool.not_true, Bool.false_eq_true, if_false, Option.bind_some]
      rw [F10_l15_spec w n hn xs (i + 1) _ hd2 (by omega), List.filter_cons_of_neg (by simp [hk])]
    | false =>
      simp only [nb, Bool.not_false, if_true]
      rw [apI_t (by simp; omega)]
      simp only [Option.bind_some]
      rw [F10_l15_spec w n hn xs (i + 1) _ hd2 (by simp; omega), List.filter_cons_of_pos (by simp [hk])]
      simp
theorem F10_spec {x : Node} (ht : x.Taints.length ≤ 1999000) (now win : Int) : F10 x now win = some (chk (wnt (sil x.Beat now win) x.LowMem x.LowDisk (clT now)) x.Taints) := by
  have h1 := clT_r now; have h2 := clT_r x.Beat
  unfold F10
  simp only [F28, Option.bind_some, clT_ref]
  rw [show IntKind.i64.wrap (clT now - clT x.Beat) = clT now - clT x.Beat from wrapI (by omega) (by omega)]
  have hsil : decide (clT win < clT now - clT x.Beat) = sil x.Beat now win := rfl
  rw [hsil, F29_spec]
  simp only [Option.bind_some]
  generalize hwe : wnt (sil x.Beat now win) x.LowMem x.LowDisk (clT now) = w
  have hwl : w.length ≤ 4 := by rw [← hwe]; exact wnt_len _ _ _ _
  rw [ck_t ⟨Nat.zero_le _, by omega⟩]
  simp only [Option.bind_some]
  rw [F10_l5_spec w (by omega) x.Taints 0 [] (by simp; omega)]
  simp only [Option.bind_some, List.nil_append]
  rw [ck_t ⟨Nat.zero_le _, by omega⟩]
  simp only [Option.bind_some]
  have hfl : (x.Taints.filter fun y => !(mg y && !hs w y)).length ≤ x.Taints.length := List.length_filter_le ..
  rw [F10_l15_spec w x (by omega) w 0 _ (by simp) (by omega)]; rfl

theorem NodelifeChecks_pure : NodelifeChecks.Pure := by
  intro x now win _ _ _ hw
  have h := sn_of (x := x) (by omega)
  unfold F3
  by_cases h50 : 50 < (x.Taints.length : Int)
  · rw [if_pos h50, F7_true]; rfl
  rw [if_neg h50, F7_true]
  simp only [Option.bind_some, if_true]
  rw [F9_spec h.toSz, F10_spec h.t]
  have h1 := clT_r now; have h2 := clT_r x.Beat
  have hwr : IntKind.i64.wrap (clT now - clT x.Beat) = clT now - clT x.Beat := wrapI (by omega) (by omega)
  simp only [Option.bind_some, hcl, clT_ref, hwr]
  have hc := chk_len (wnt (sil x.Beat now win) x.LowMem x.LowDisk (clT now)) x.Taints
  have hwl := wnt_len (sil x.Beat now win) x.LowMem x.LowDisk (clT now)
  have hn : Sn ⟨x.Meta, x.Capacity, x.MaxPods, x.Cordoned, chk (wnt (sil x.Beat now win) x.LowMem x.LowDisk (clT now)) x.Taints, decide (¬ (clT win < clT now - clT x.Beat)), x.Beat, x.LowMem, x.LowDisk, x.Images⟩ :=
    ⟨⟨h.l, h.o, h.f, h.m, h.mf, by show (chk _ _).length ≤ _; omega, h.i⟩, h.k1, h.k2, h.k3⟩
  have := F8_same hn
  rw [this]; rfl

end Go.Proofs.Ytihhlgbcbmoblaa
