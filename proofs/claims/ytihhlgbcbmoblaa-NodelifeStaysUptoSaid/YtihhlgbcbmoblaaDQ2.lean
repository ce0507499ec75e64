/- The plain laws, part 2. -/
import Derived.Test.YtihhlgbcbmoblaaDQ
set_option linter.unusedVariables false
set_option linter.unusedSimpArgs false
namespace Go.Proofs.Ytihhlgbcbmoblaa
open Go Go.Fw
set_option maxRecDepth 100000


/-! Taints. -/
def sm (a b : Taint) : Bool := decide (a.Key = b.Key ∧ a.Value = b.Value ∧ a.Effect = b.Effect)
def hs (l : List Taint) (x : Taint) : Bool := l.any fun y => sm x y
theorem sm_comm (a b : Taint) : sm a b = sm b a := by
  unfold sm; exact decide_eq_decide.2 ⟨fun ⟨h1, h2, h3⟩ => ⟨h1.symm, h2.symm, h3.symm⟩, fun ⟨h1, h2, h3⟩ => ⟨h1.symm, h2.symm, h3.symm⟩⟩
theorem sm_trans {a b c : Taint} (h : sm a b = true) (h' : sm b c = true) : sm a c = true := by
  unfold sm at *; simp only [decide_eq_true_eq] at *
  exact ⟨h.1.trans h'.1, h.2.1.trans h'.2.1, h.2.2.trans h'.2.2⟩
theorem F55_eq (a b : Taint) : F55 a b = some (sm a b) := by
  unfold F55 sm
  by_cases h1 : a.Key = b.Key
  · by_cases h2 : a.Value = b.Value
    · simp [h1, h2]
    · simp [h1, h2]
  · simp [h1]
theorem F52_l1_spec (b : Taint) : ∀ (l : List Taint) (i : Nat), (F52_l1 b l i = some (.inr ()) ∧ hs l b = false) ∨ (∃ k : Nat, F52_l1 b l i = some (.inl (k : Int))) ∧ hs l b = true
  | [], i => .inl ⟨rfl, rfl⟩
  | y :: l, i => by
    rw [F52_l1]
    simp only [F54, F55_eq, Option.bind_some]
    cases h : sm b y with
    | true => exact .inr ⟨⟨i, by rw [if_pos rfl]; rfl⟩, by simp [hs, h]⟩
    | false =>
      rw [if_neg (by simp)]
      rcases F52_l1_spec b l (i + 1) with ⟨h1, h2⟩ | ⟨h1, h2⟩
      · exact .inl ⟨h1, by unfold hs at *; rw [List.any_cons, h, h2]; rfl⟩
      · exact .inr ⟨h1, by unfold hs at *; rw [List.any_cons, h2]; simp⟩
theorem F27_spec (l : List Taint) (x : Taint) (hb : l.length ≤ 2000000) : F27 l x = some (hs l x) := by
  unfold F27 F53 F52
  rw [ck_t ⟨Nat.zero_le _, by omega⟩]
  simp only [Option.bind_some]
  rcases F52_l1_spec x l 0 with ⟨h1, h2⟩ | ⟨⟨k, h1⟩, h2⟩
  · rw [h1, h2]; simp
  · rw [h1, h2]; simp
def kN : ByteArray := ⟨#[110, 111, 100, 101, 45, 110, 111, 116, 45, 114, 101, 97, 100, 121]⟩
def kM : ByteArray := ⟨#[108, 111, 119, 45, 109, 101, 109, 111, 114, 121]⟩
def kD : ByteArray := ⟨#[108, 111, 119, 45, 100, 105, 115, 107]⟩
def kE : ByteArray := ⟨#[]⟩
def M4 : List Taint := (lit [⟨kN, kE, 1, 0⟩, ⟨kN, kE, 3, 0⟩, ⟨kM, kE, 1, 0⟩, ⟨kD, kE, 1, 0⟩])
def mg (x : Taint) : Bool := hs M4 x
def wnt (s m d : Bool) (t : Int) : List Taint := (if s then [⟨kN, kE, 1, t⟩, ⟨kN, kE, 3, t⟩] else []) ++ (if m then [⟨kM, kE, 1, t⟩] else []) ++ (if d then [⟨kD, kE, 1, t⟩] else [])
theorem F26_eq (x : Taint) (w : List Taint) (hw : w.length ≤ 2000000) : F26 x w = some (mg x && !hs w x) := by
  unfold F26
  simp only [F24, Option.bind_some]
  have : F27 M4 x = some (mg x) := F27_spec M4 x (by decide)
  unfold M4 kN kM kD kE at this
  rw [this]
  simp only [Option.bind_some]
  cases mg x with
  | true => simp only [if_true]; rw [F27_spec w x hw]; rfl
  | false => rfl
theorem F60_eq (x : Taint) : F60 x = some (mg x) := by
  unfold F60
  simp only [F24, Option.bind_some]
  have : F27 M4 x = some (mg x) := F27_spec M4 x (by decide)
  unfold M4 kN kM kD kE at this
  rw [this]; rfl
theorem F52v1_l1_spec (w l : List Taint) (hw : w.length ≤ 2000000) : ∀ n i, l.length = i + n → F52v1_l1 w l (l.drop i) i = some (if fip (fun x => mg x && !hs w x) (l.drop i) < (l.drop i).length then .inl ((i + fip (fun x => mg x && !hs w x) (l.drop i) : Nat) : Int) else .inr ())
  | 0, i, h => by rw [List.drop_of_length_le (by omega)]; rfl
  | n + 1, i, h => by
    have hi : i < l.length := by omega
    have ih := F52v1_l1_spec w l hw n (i + 1) (by omega)
    rw [List.drop_eq_getElem_cons hi, F52v1_l1, rdI_at hi]
    simp only [Option.bind_some, F26_eq _ _ hw]
    cases h1 : (mg l[i] && !hs w l[i]) with
    | true =>
      have e : fip (fun x => mg x && !hs w x) (l[i] :: l.drop (i + 1)) = 0 := by rw [fip, if_pos h1]
      rw [if_pos rfl, e, if_pos (by simp only [List.length_cons]; omega)]; rfl
    | false =>
      have e : fip (fun x => mg x && !hs w x) (l[i] :: l.drop (i + 1)) = fip (fun x => mg x && !hs w x) (l.drop (i + 1)) + 1 := by rw [fip, if_neg (by simp [h1])]
      rw [if_neg (by simp), e, ih, List.length_cons]
      by_cases h2 : fip (fun x => mg x && !hs w x) (l.drop (i + 1)) < (l.drop (i + 1)).length
      · rw [if_pos h2, if_pos (by omega)]; congr 3; omega
      · rw [if_neg h2, if_neg (by omega)]
theorem F52v1_spec (w l : List Taint) (hw : w.length ≤ 2000000) (hl : l.length ≤ 2000000) : F52v1 l w = some (if fip (fun x => mg x && !hs w x) l < l.length then (fip (fun x => mg x && !hs w x) l : Int) else -1) := by
  have := F52v1_l1_spec w l hw l.length 0 (by omega)
  rw [List.drop_zero] at this
  unfold F52v1
  rw [ck_t ⟨Nat.zero_le _, by omega⟩, Option.bind_some, this, Option.bind_some]
  by_cases h : fip (fun x => mg x && !hs w x) l < l.length
  · rw [if_pos h, if_pos h]; simp
  · rw [if_neg h, if_neg h]
theorem F25_l3_dl (w : List Taint) (hw : w.length ≤ 2000000) : ∀ k c a b, F25_l3 w k c a b = dlL (fun x => mg x && !hs w x) k c a b
  | 0, _, _, _ => rfl
  | k + 1, c, a, b => by
    rw [F25_l3, dlL]
    simp only [F26_eq _ _ hw, Option.bind_some, F25_l3_dl w hw k]
theorem F25_spec (w l : List Taint) (hw : w.length ≤ 2000000) (hl : l.length ≤ 2000000) : F25 l w = some (l.filter fun x => !(mg x && !hs w x)) := by
  unfold F25
  rw [F52v1_spec w l hw hl, Option.bind_some]
  simp only [F25_l3_dl w hw]
  exact del_spec (fun x => mg x && !hs w x) _ l hl
theorem F52v2_l1_spec : ∀ (l : List Taint) (i : Nat), F52v2_l1 l i = some (if fip mg l < l.length then .inl ((i + fip mg l : Nat) : Int) else .inr ())
  | [], i => rfl
  | y :: l, i => by
    have ih := F52v2_l1_spec l (i + 1)
    rw [F52v2_l1, F60_eq]
    simp only [Option.bind_some]
    cases h1 : mg y with
    | true =>
      have e : fip mg (y :: l) = 0 := by rw [fip, if_pos h1]
      rw [if_pos rfl, e, if_pos (by simp)]; rfl
    | false =>
      have e : fip mg (y :: l) = fip mg l + 1 := by rw [fip, if_neg (by simp [h1])]
      rw [if_neg (by simp), e, ih, List.length_cons]
      by_cases h2 : fip mg l < l.length
      · rw [if_pos h2, if_pos (by omega)]; congr 3; omega
      · rw [if_neg h2, if_neg (by omega)]
theorem F25v1_l3_dl : ∀ k c a b, F25v1_l3 k c a b = dlL mg k c a b
  | 0, _, _, _ => rfl
  | k + 1, c, a, b => by
    rw [F25v1_l3, dlL]
    simp only [F60_eq, Option.bind_some, F25v1_l3_dl k]
theorem F25v1_spec (l : List Taint) (hl : l.length ≤ 2000000) : F25v1 l = some (l.filter fun x => !mg x) := by
  unfold F25v1 F52v2
  rw [ck_t ⟨Nat.zero_le _, by omega⟩, Option.bind_some, F52v2_l1_spec, Option.bind_some]
  have := del_spec mg (⟨(⟨#[]⟩ : ByteArray), (⟨#[]⟩ : ByteArray), 0, 0⟩ : Taint) l hl
  simp only [F25v1_l3_dl]
  by_cases h : fip mg l < l.length
  · simp only [h, if_true, Nat.zero_add, Option.bind_some] at this ⊢; exact this
  · simp only [h, if_false, Option.bind_some] at this ⊢; exact this

/-! Check. -/
def clT (t : Int) : Int := if 1000000000000 < (if t < 0 then 0 else t) then 1000000000000 else (if t < 0 then 0 else t)
theorem clT_r (t : Int) : 0 ≤ clT t ∧ clT t ≤ 1000000000000 := by unfold clT; split <;> split <;> omega
theorem clT_ref (t : Int) : (if (if 0 < t then t else 0) < 1000000000000 then (if 0 < t then t else 0) else 1000000000000) = clT t := by unfold clT; split <;> split <;> split <;> (try split) <;> omega
def sil (beat now win : Int) : Bool := decide (clT win < clT now - clT beat)
def chk (w l : List Taint) : List Taint := (l.filter fun x => !(mg x && !hs w x)) ++ w.filter fun x => !hs l x
theorem wnt_len (s m d : Bool) (t : Int) : (wnt s m d t).length ≤ 4 := by unfold wnt; cases s <;> cases m <;> cases d <;> simp
theorem F9_step (x0 : Node) (now win : Int) (y : Taint) (i : Nat) (o : List Taint) (z : Taint) (xs : List Taint) (hy : M4[i]? = some y) (ho : o.length ≤ 1000) :
    F9_l6 x0 now win (z :: xs) i o = F9_l6 x0 now win xs (i + 1) (o ++ if (y.Key = kN ∧ sil x0.Beat now win = true) ∨ (y.Key = kM ∧ x0.LowMem = true) ∨ (y.Key = kD ∧ x0.LowDisk = true) then [⟨y.Key, y.Value, y.Effect, clT now⟩] else []) := by
  have h1 := clT_r now; have h2 := clT_r x0.Beat
  have hw : IntKind.i64.wrap (clT now - clT x0.Beat) = clT now - clT x0.Beat := wrapI (by omega) (by omega)
  have a1 : (if 1000000000000 < (if now < 0 then 0 else now) then 1000000000000 else (if now < 0 then 0 else now)) = clT now := rfl
  have a2 : (if 1000000000000 < (if x0.Beat < 0 then 0 else x0.Beat) then 1000000000000 else (if x0.Beat < 0 then 0 else x0.Beat)) = clT x0.Beat := rfl
  have a3 : (if 1000000000000 < (if win < 0 then 0 else win) then 1000000000000 else (if win < 0 then 0 else win)) = clT win := rfl
  rw [F9_l6]
  have hr : rdI (lit [(⟨(⟨#[110, 111, 100, 101, 45, 110, 111, 116, 45, 114, 101, 97, 100, 121]⟩ : ByteArray), (⟨#[]⟩ : ByteArray), 1, 0⟩ : Taint), (⟨(⟨#[110, 111, 100, 101, 45, 110, 111, 116, 45, 114, 101, 97, 100, 121]⟩ : ByteArray), (⟨#[]⟩ : ByteArray), 3, 0⟩ : Taint), (⟨(⟨#[108, 111, 119, 45, 109, 101, 109, 111, 114, 121]⟩ : ByteArray), (⟨#[]⟩ : ByteArray), 1, 0⟩ : Taint), (⟨(⟨#[108, 111, 119, 45, 100, 105, 115, 107]⟩ : ByteArray), (⟨#[]⟩ : ByteArray), 1, 0⟩ : Taint)]) ((i : Int)) = some y := by
    rw [rdI_nat]; exact hy
  rw [hr]
  simp only [a1, a2, a3, hw, Option.bind_some]
  have ap : ∀ t : Taint, apI o [t] = some (o ++ [t]) := fun t => apI_t (by simp; omega)
  simp only [ap]
  have e1 : (⟨#[110, 111, 100, 101, 45, 110, 111, 116, 45, 114, 101, 97, 100, 121]⟩ : ByteArray) = kN := rfl
  have e2 : (⟨#[108, 111, 119, 45, 109, 101, 109, 111, 114, 121]⟩ : ByteArray) = kM := rfl
  have e3 : (⟨#[108, 111, 119, 45, 100, 105, 115, 107]⟩ : ByteArray) = kD := rfl
  simp only [e1, e2, e3]
  have hsil : sil x0.Beat now win = decide (clT win < clT now - clT x0.Beat) := rfl
  rw [hsil]
  rcases Classical.propComplete (y.Key = kN) with c1 | c1 <;> rcases Classical.propComplete (clT win < clT now - clT x0.Beat) with c2 | c2 <;> rcases Classical.propComplete (y.Key = kM) with c3 | c3 <;> rcases Classical.propComplete (y.Key = kD) with c4 | c4 <;> cases hm : x0.LowMem <;> cases hd : x0.LowDisk <;>
    simp only [c1, c2, c3, c4, hm, hd, if_true, if_false, Option.bind_some, Bool.false_eq_true, decide_true, decide_false, true_and, false_and, and_true, and_false, true_or, or_true, false_or, or_false, List.append_nil]
theorem F9_l6_spec (x0 : Node) (now win : Int) : F9_l6 x0 now win M4 0 [] = some (wnt (sil x0.Beat now win) x0.LowMem x0.LowDisk (clT now)) := by
  have d1 : ¬ (kM = kN) := by decide
  have d2 : ¬ (kD = kN) := by decide
  have d3 : ¬ (kD = kM) := by decide
  have d4 : ¬ (kN = kM) := by decide
  have d5 : ¬ (kN = kD) := by decide
  have d6 : ¬ (kM = kD) := by decide
  show F9_l6 x0 now win [⟨kN, kE, 1, 0⟩, ⟨kN, kE, 3, 0⟩, ⟨kM, kE, 1, 0⟩, ⟨kD, kE, 1, 0⟩] 0 [] = _
  rw [F9_step x0 now win ⟨kN, kE, 1, 0⟩ 0 [] _ _ rfl (by simp), F9_step x0 now win ⟨kN, kE, 3, 0⟩ 1 _ _ _ rfl (by (repeat' split) <;> simp), F9_step x0 now win ⟨kM, kE, 1, 0⟩ 2 _ _ _ rfl (by (repeat' split) <;> simp), F9_step x0 now win ⟨kD, kE, 1, 0⟩ 3 _ _ _ rfl (by (repeat' split) <;> simp), F9_l6]
  unfold wnt
  cases sil x0.Beat now win <;> cases hm : x0.LowMem <;> cases hd : x0.LowDisk <;> simp [d1, d2, d3, d4, d5, d6]
theorem wnt_has {s m d : Bool} {t : Int} {x : Taint} (hx : x ∈ wnt s m d t) : hs (wnt s m d t) x = true := by
  unfold hs; rw [List.any_eq_true]; exact ⟨x, hx, by simp [sm]⟩
/-- No two of the managed taints are the same. -/
theorem wnt_apart (s m d : Bool) (t : Int) : (wnt s m d t).Pairwise fun a b => sm a b = false := by
  have d1 : ¬ (kM = kN) := by decide
  have d2 : ¬ (kD = kN) := by decide
  have d3 : ¬ (kD = kM) := by decide
  have d4 : ¬ (kN = kM) := by decide
  have d5 : ¬ (kN = kD) := by decide
  have d6 : ¬ (kM = kD) := by decide
  unfold wnt
  cases s <;> cases m <;> cases d <;> simp [sm, d1, d2, d3, d4, d5, d6]
theorem F9_l25_spec (w : List Taint) : ∀ (xs : List Taint) (i : Nat) (o : List Taint), w.drop i = xs → xs.Pairwise (fun a b => sm a b = false) → o.length + xs.length ≤ 1999990 → F9_l25 w xs i o = some (o ++ xs.filter fun x => !hs o x)
  | [], i, o, _, _, _ => by simp [F9_l25]
  | x :: xs, i, o, hd, hp, hl => by
    simp only [List.length_cons] at hl
    have hi : w[i]? = some x := by
      have := congrArg (·[0]?) hd
      simpa using this
    have hd2 : w.drop (i + 1) = xs := by
      have := congrArg (List.drop 1) hd
      simpa [List.drop_drop, Nat.add_comm] using this
    have hp2 := List.pairwise_cons.1 hp
    rw [F9_l25, rdI_nat, hi]
    simp only [Option.bind_some]
    rw [F27_spec _ _ (by omega)]
    simp only [Option.bind_some, nb_not]
    cases hh : hs o x with
    | true =>
      simp only [Bool.not_true, Bool.false_eq_true, if_false, Option.bind_some]
      rw [F9_l25_spec w xs (i + 1) o hd2 hp2.2 (by omega), List.filter_cons_of_neg (by simp [hh])]
    | false =>
      simp only [Bool.not_false, if_true]
      rw [apI_t (by simp; omega)]
      simp only [Option.bind_some]
      rw [F9_l25_spec w xs (i + 1) _ hd2 hp2.2 (by simp; omega), List.filter_cons_of_pos (by simp [hh])]
      have : xs.filter (fun y => !hs (o ++ [x]) y) = xs.filter fun y => !hs o y := by
        refine List.filter_congr fun y hy => ?_
        have := hp2.1 y hy
        rw [sm_comm] at this
        simp [hs, this]
      rw [this]; simp
theorem hs_keep {w l : List Taint} {x : Taint} (hx : hs w x = true) : hs (l.filter fun y => !(mg y && !hs w y)) x = hs l x := by
  unfold hs at *
  rw [Bool.eq_iff_iff, List.any_eq_true, List.any_eq_true]
  constructor
  · rintro ⟨y, h1, h2⟩; exact ⟨y, (List.mem_filter.1 h1).1, h2⟩
  · rintro ⟨y, h1, h2⟩
    refine ⟨y, List.mem_filter.2 ⟨h1, ?_⟩, h2⟩
    obtain ⟨z, z1, z2⟩ := List.any_eq_true.1 hx
    have : (w.any fun z => sm y z) = true := List.any_eq_true.2 ⟨z, z1, sm_trans (by rw [sm_comm]; exact h2) z2⟩
    simp [this]
/-- The parts of a node that are cloned. -/
structure Sz (x : Node) : Prop where
  l : x.Meta.Labels.length ≤ 1999000
  o : x.Meta.Owners.length ≤ 1999000
  f : x.Meta.Finalizers.length ≤ 1999000
  m : x.Meta.Managers.length ≤ 1999000
  mf : ∀ y ∈ x.Meta.Managers, y.Fields.length ≤ 1999000
  t : x.Taints.length ≤ 1999000
  i : x.Images.length ≤ 1999000
theorem cl_t {α : Type} {l : List α} (h : l.length ≤ 1999000) : cloneI l = some l := if_pos (by omega)
theorem F22_l5_spec (l : List Manager) (h : ∀ y ∈ l, y.Fields.length ≤ 1999000) : ∀ n i, l.length = i + n → F22_l5 (l.drop i) i l = some l
  | 0, i, hi => by rw [List.drop_of_length_le (by omega)]; rfl
  | n + 1, i, hn => by
    have hi : i < l.length := by omega
    rw [List.drop_eq_getElem_cons hi, F22_l5, rdI_at hi]
    simp only [Option.bind_some]
    rw [cl_t (h _ (List.getElem_mem hi))]
    simp only [Option.bind_some, Int.toNat_natCast]
    have : (⟨l[i].Name, l[i].Fields⟩ : Manager) = l[i] := rfl
    rw [this, List.set_getElem_self]
    exact F22_l5_spec l h n (i + 1) (by omega)
theorem F22_spec {x : Node} (h : Sz x) : F22 x = some (x.Meta.Labels, x.Meta.Owners, x.Meta.Finalizers, x.Meta.Managers, x.Taints, x.Images) := by
  have hm := h.m
  unfold F22
  rw [cl_t h.l]; simp only [Option.bind_some]
  rw [cl_t h.o]; simp only [Option.bind_some]
  rw [cl_t h.f]; simp only [Option.bind_some]
  rw [cl_t h.m]; simp only [Option.bind_some]
  rw [ck_t ⟨Nat.zero_le _, by omega⟩]; simp only [Option.bind_some]
  have := F22_l5_spec x.Meta.Managers h.mf x.Meta.Managers.length 0 (by omega)
  rw [List.drop_zero] at this
  rw [this]; simp only [Option.bind_some]
  rw [cl_t h.t]; simp only [Option.bind_some]
  rw [cl_t h.i]; rfl
theorem F9_spec {x : Node} (h : Sz x) (now win : Int) : F9 x now win = some (x.Meta.Labels, x.Meta.Owners, x.Meta.Finalizers, x.Meta.Managers, chk (wnt (sil x.Beat now win) x.LowMem x.LowDisk (clT now)) x.Taints, x.Images) := by
  have ht := h.t
  unfold F9
  rw [F22_spec h]
  simp only [Option.bind_some, F23, F24]
  rw [ck_t ⟨Nat.zero_le _, by decide⟩]
  simp only [Option.bind_some]
  have hw := F9_l6_spec x now win
  unfold M4 kN kM kD kE at hw
  rw [hw]
  simp only [Option.bind_some]
  generalize hwe : wnt (sil x.Beat now win) x.LowMem x.LowDisk (clT now) = w
  have hwl : w.length ≤ 4 := by rw [← hwe]; exact wnt_len _ _ _ _
  rw [F25_spec w x.Taints (by omega) (by omega)]
  simp only [Option.bind_some]
  rw [ck_t ⟨Nat.zero_le _, by omega⟩]
  simp only [Option.bind_some]
  have hfl : (x.Taints.filter fun y => !(mg y && !hs w y)).length ≤ x.Taints.length := List.length_filter_le ..
  rw [F9_l25_spec w w 0 _ (by simp) (by rw [← hwe]; exact wnt_apart _ _ _ _) (by omega)]
  simp only [Option.bind_some, chk]
  have : w.filter (fun y => !hs (x.Taints.filter fun z => !(mg z && !hs w z)) y) = w.filter fun y => !hs x.Taints y := by
    refine List.filter_congr fun y hy => ?_
    rw [hs_keep]
    unfold hs; rw [List.any_eq_true]; exact ⟨y, hy, by simp [sm]⟩
  rw [this]


theorem F7_true : F7 = some true := by kernel_rfl

theorem hcl (t : Int) : (if 1000000000000 < (if t < 0 then 0 else t) then 1000000000000 else (if t < 0 then 0 else t)) = clT t := rfl

theorem clT_pos {u : Int} (h : 0 ≤ u) : (if 1000000000000 < u then 1000000000000 else u) = clT u := by
  have e : (if u < 0 then 0 else u) = u := if_neg (by omega)
  unfold clT; simp only [e]
theorem clT_id {t : Int} (h : 0 ≤ t) (h' : t ≤ 1000000000000) : clT t = t := by unfold clT; rw [if_neg (by rw [if_neg (by omega)]; omega), if_neg (by omega)]

end Go.Proofs.Ytihhlgbcbmoblaa
