/- The plain laws, part 4. -/
import Derived.Test.YtihhlgbcbmoblaaCQ3
set_option linter.unusedVariables false
set_option linter.unusedSimpArgs false
namespace Go.Proofs.Ytihhlgbcbmoblaa
open Go Go.Fw
set_option maxRecDepth 100000

/-! Silent and back. -/
def isN (x : Taint) : Bool := sm x ⟨kN, kE, 1, 0⟩ || sm x ⟨kN, kE, 3, 0⟩
theorem sm_since (x : Taint) (k v : ByteArray) (e t t' : Int) : sm x ⟨k, v, e, t⟩ = sm x ⟨k, v, e, t'⟩ := rfl
theorem hs_wnt (s m d : Bool) (t : Int) (x : Taint) : hs (wnt s m d t) x = ((s && isN x) || (m && sm x ⟨kM, kE, 1, 0⟩) || (d && sm x ⟨kD, kE, 1, 0⟩)) := by
  unfold hs wnt isN
  have e1 := sm_since x kN kE 1 t 0
  have e2 := sm_since x kN kE 3 t 0
  have e3 := sm_since x kM kE 1 t 0
  have e4 := sm_since x kD kE 1 t 0
  cases s <;> cases m <;> cases d <;> simp [e1, e2, e3, e4, Bool.or_assoc]
theorem mg_eq (x : Taint) : mg x = (isN x || sm x ⟨kM, kE, 1, 0⟩ || sm x ⟨kD, kE, 1, 0⟩) := by
  have : mg x = hs (wnt true true true 0) x := rfl
  rw [this, hs_wnt]; simp
theorem N_M {x : Taint} (h : isN x = true) : sm x ⟨kM, kE, 1, 0⟩ = false ∧ sm x ⟨kD, kE, 1, 0⟩ = false := by
  have d4 : ¬ (kN = kM) := by decide
  have d5 : ¬ (kN = kD) := by decide
  unfold isN sm at h
  simp only [Bool.or_eq_true, decide_eq_true_eq] at h
  have hk : x.Key = kN := by rcases h with h | h <;> exact h.1
  unfold sm
  simp [hk, d4, d5]
theorem isN_sm {x y : Taint} (h : sm x y = true) : isN x = isN y := by
  unfold isN
  rw [Bool.eq_iff_iff, Bool.or_eq_true, Bool.or_eq_true]
  have h' : sm y x = true := by rw [sm_comm]; exact h
  exact ⟨fun g => g.imp (sm_trans h') (sm_trans h'), fun g => g.imp (sm_trans h) (sm_trans h)⟩
theorem hs_sm {l : List Taint} {x y : Taint} (h : sm x y = true) : hs l x = hs l y := by
  unfold hs
  have h' : sm y x = true := by rw [sm_comm]; exact h
  rw [Bool.eq_iff_iff, List.any_eq_true, List.any_eq_true]
  exact ⟨fun ⟨z, z1, z2⟩ => ⟨z, z1, sm_trans h' z2⟩, fun ⟨z, z1, z2⟩ => ⟨z, z1, sm_trans h z2⟩⟩
theorem hs_mem {l : List Taint} {x : Taint} (h : x ∈ l) : hs l x = true := by
  unfold hs; rw [List.any_eq_true]; exact ⟨x, h, by simp [sm]⟩
/-- What a node that is not silent has. -/
structure Calm (m d : Bool) (a : List Taint) : Prop where
  mine : ∀ y ∈ a, mg y = true → hs (wnt false m d 0) y = true
  all : ∀ x, hs (wnt false m d 0) x = true → hs a x = true
theorem hs_t (s m d : Bool) (t t' : Int) (x : Taint) : hs (wnt s m d t) x = hs (wnt s m d t') x := by rw [hs_wnt, hs_wnt]
theorem chk_calm (m d : Bool) (t : Int) (l : List Taint) : Calm m d (chk (wnt false m d t) l) := by
  refine ⟨fun y hy hm => ?_, fun x hx => ?_⟩
  · rw [hs_t _ _ _ 0 t]
    rcases List.mem_append.1 hy with h | h
    · have := (List.mem_filter.1 h).2
      rw [hm] at this; simpa using this
    · exact hs_mem (List.mem_filter.1 h).1
  · rw [hs_t _ _ _ 0 t] at hx
    obtain ⟨z, z1, z2⟩ := List.any_eq_true.1 hx
    rw [hs_sm z2]
    cases hz : hs l z with
    | true =>
      obtain ⟨y, y1, y2⟩ := List.any_eq_true.1 hz
      unfold hs; rw [List.any_eq_true]
      refine ⟨y, List.mem_append_left _ (List.mem_filter.2 ⟨y1, ?_⟩), y2⟩
      have : hs (wnt false m d t) y = true := by rw [← hs_sm y2]; exact hs_mem z1
      simp [this]
    | false => exact hs_mem (List.mem_append_right _ (List.mem_filter.2 ⟨z1, by simp [hz]⟩))
theorem Calm.noN {m d : Bool} {a : List Taint} (h : Calm m d a) : ∀ y ∈ a, isN y = false := by
  intro y hy
  cases hn : isN y with
  | false => rfl
  | true =>
    have h1 := h.mine y hy (by rw [mg_eq, hn]; rfl)
    rw [hs_wnt, (N_M hn).1, (N_M hn).2] at h1
    simp at h1
def NN (t : Int) : List Taint := [⟨kN, kE, 1, t⟩, ⟨kN, kE, 3, t⟩]
theorem wnt_split (m d : Bool) (t : Int) : wnt true m d t = NN t ++ wnt false m d t := by unfold wnt NN; simp
theorem NN_N {t : Int} {x : Taint} (h : x ∈ NN t) : isN x = true := by
  unfold NN at h
  simp only [List.mem_cons, List.not_mem_nil, or_false] at h
  rcases h with rfl | rfl <;> simp [isN, sm]
theorem hs_true_of {m d : Bool} {t : Int} {x : Taint} (h : hs (wnt false m d 0) x = true) : hs (wnt true m d t) x = true := by
  rw [hs_wnt] at h ⊢
  simp only [Bool.false_and, Bool.false_or] at h
  rw [Bool.or_assoc, h]; simp
theorem Calm.hush {m d : Bool} {a : List Taint} (h : Calm m d a) (t : Int) : chk (wnt true m d t) a = a ++ NN t := by
  unfold chk
  congr 1
  · refine List.filter_eq_self.2 fun y hy => ?_
    cases hm : mg y with
    | false => rfl
    | true => rw [hs_true_of (h.mine y hy hm)]; rfl
  · rw [wnt_split, List.filter_append]
    have e1 : (NN t).filter (fun x => !hs a x) = NN t := by
      refine List.filter_eq_self.2 fun x hx => ?_
      cases hh : hs a x with
      | false => rfl
      | true =>
        obtain ⟨y, y1, y2⟩ := List.any_eq_true.1 hh
        have := h.noN y y1
        rw [← isN_sm y2, NN_N hx] at this
        cases this
    have e2 : (wnt false m d t).filter (fun x => !hs a x) = [] := by
      rw [List.filter_eq_nil_iff]
      intro x hx
      have : hs a x = true := h.all x (by rw [hs_t _ _ _ 0 t]; exact hs_mem hx)
      simp [this]
    rw [e1, e2, List.append_nil]
theorem hs_app {a b : List Taint} {x : Taint} : hs (a ++ b) x = (hs a x || hs b x) := by unfold hs; rw [List.any_append]
theorem Calm.still {m d : Bool} {a : List Taint} (h : Calm m d a) (t t' : Int) : chk (wnt true m d t') (a ++ NN t) = a ++ NN t := by
  have hN : ∀ x, isN x = true → hs (NN t) x = true := by
    intro x hx
    unfold isN at hx
    simp only [Bool.or_eq_true] at hx
    unfold hs NN; rw [List.any_eq_true]
    rcases hx with hx | hx
    · exact ⟨_, List.mem_cons_self .., hx⟩
    · exact ⟨_, List.mem_cons_of_mem _ (List.mem_cons_self ..), hx⟩
  unfold chk
  have e0 : (wnt true m d t').filter (fun x => !hs (a ++ NN t) x) = [] := by
    rw [List.filter_eq_nil_iff]
    intro x hx
    rw [wnt_split] at hx
    rcases List.mem_append.1 hx with hx | hx
    · have : hs (a ++ NN t) x = true := by rw [hs_app, hN x (NN_N hx)]; simp
      simp [this]
    · have : hs (a ++ NN t) x = true := by rw [hs_app, h.all x (by rw [hs_t _ _ _ 0 t']; exact hs_mem hx)]; rfl
      simp [this]
  rw [e0, List.append_nil]
  refine List.filter_eq_self.2 fun y hy => ?_
  cases hm : mg y with
  | false => rfl
  | true =>
    rcases List.mem_append.1 hy with hy | hy
    · rw [hs_true_of (h.mine y hy hm)]; rfl
    · have : hs (wnt true m d t') y = true := by rw [hs_wnt, NN_N hy]; rfl
      rw [this]; rfl
theorem Calm.back {m d : Bool} {a : List Taint} (h : Calm m d a) (t t' : Int) : chk (wnt false m d t') (a ++ NN t) = a := by
  unfold chk
  have e0 : (wnt false m d t').filter (fun x => !hs (a ++ NN t) x) = [] := by
    rw [List.filter_eq_nil_iff]
    intro x hx
    have : hs (a ++ NN t) x = true := by rw [hs_app, h.all x (by rw [hs_t _ _ _ 0 t']; exact hs_mem hx)]; rfl
    simp [this]
  rw [e0, List.append_nil, List.filter_append]
  have e1 : a.filter (fun x => !(mg x && !hs (wnt false m d t') x)) = a := by
    refine List.filter_eq_self.2 fun y hy => ?_
    cases hm : mg y with
    | false => rfl
    | true => rw [hs_t _ _ _ t' 0, h.mine y hy hm]; rfl
  have e2 : (NN t).filter (fun x => !(mg x && !hs (wnt false m d t') x)) = [] := by
    rw [List.filter_eq_nil_iff]
    intro x hx
    have hn := NN_N hx
    have h1 : mg x = true := by rw [mg_eq, hn]; rfl
    have h2 : hs (wnt false m d t') x = false := by rw [hs_wnt, (N_M hn).1, (N_M hn).2]; simp
    simp [h1, h2]
  rw [e1, e2, List.append_nil]
theorem NodelifeRecovers_pure : NodelifeRecovers.Pure := by
  intro x now win more _ _ _ _ hw
  have h := sn_of (x := x) (by omega)
  unfold F5
  have hcond : ∃ b, ((if 50 < (x.Taints.length : Int) then some true else (if now < 0 then some true else (if 250000000000 < now then some true else (if win < 0 then some true else (if 250000000000 < win then some true else (if more < 0 then some true else some (decide (250000000000 < more)))))))) : Option Bool) = some b ∧ (b = false → x.Taints.length ≤ 50 ∧ 0 ≤ now ∧ now ≤ 250000000000 ∧ 0 ≤ win ∧ win ≤ 250000000000 ∧ 0 ≤ more ∧ more ≤ 250000000000) := by
    by_cases c1 : 50 < (x.Taints.length : Int)
    · exact ⟨true, by rw [if_pos c1], fun e => by cases e⟩
    by_cases c2 : now < 0
    · exact ⟨true, by rw [if_neg c1, if_pos c2], fun e => by cases e⟩
    by_cases c3 : 250000000000 < now
    · exact ⟨true, by rw [if_neg c1, if_neg c2, if_pos c3], fun e => by cases e⟩
    by_cases c4 : win < 0
    · exact ⟨true, by rw [if_neg c1, if_neg c2, if_neg c3, if_pos c4], fun e => by cases e⟩
    by_cases c5 : 250000000000 < win
    · exact ⟨true, by rw [if_neg c1, if_neg c2, if_neg c3, if_neg c4, if_pos c5], fun e => by cases e⟩
    by_cases c6 : more < 0
    · exact ⟨true, by rw [if_neg c1, if_neg c2, if_neg c3, if_neg c4, if_neg c5, if_pos c6], fun e => by cases e⟩
    refine ⟨_, by rw [if_neg c1, if_neg c2, if_neg c3, if_neg c4, if_neg c5, if_neg c6], fun e => ?_⟩
    simp only [decide_eq_false_iff_not] at e
    exact ⟨by omega, by omega, by omega, by omega, by omega, by omega, by omega⟩
  obtain ⟨b, e1, hb⟩ := hcond
  rw [e1]
  simp only [Option.bind_some]
  cases b with
  | true => simp only [if_true]; rw [F7_true]; rfl
  | false =>
    obtain ⟨ht, r1, r2, r3, r4, r5, r6⟩ := hb rfl
    simp only [Bool.false_eq_true, if_false]
    have w1 : IntKind.i64.wrap (now + win) = now + win := wrapI (by omega) (by omega)
    have w2 : IntKind.i64.wrap (now + win + 1) = now + win + 1 := wrapI (by omega) (by omega)
    have w3 : IntKind.i64.wrap (now + win + 1 + more) = now + win + 1 + more := wrapI (by omega) (by omega)
    have w4 : IntKind.i64.wrap (now + win + 2) = now + win + 2 := wrapI (by omega) (by omega)
    have w5 : IntKind.i64.wrap (now + win + 2 + more) = now + win + 2 + more := wrapI (by omega) (by omega)
    have c0 := clT_id (t := win) (by omega) (by omega)
    have c1 := clT_id (t := now) (by omega) (by omega)
    have c2 := clT_id (t := now + win) (by omega) (by omega)
    have c3 := clT_id (t := now + win + 1) (by omega) (by omega)
    have c4 := clT_id (t := now + win + 1 + more) (by omega) (by omega)
    have c5 := clT_id (t := now + win + 2 + more) (by omega) (by omega)
    simp only [w1, w2, w3, w4, w5, hcl, c0, c1, c2, c3, c4, c5]
    have q1 : IntKind.i64.wrap (now + win - now) = win := by rw [wrapI (by omega) (by omega)]; omega
    have q2 : IntKind.i64.wrap (now + win + 1 - now) = win + 1 := by rw [wrapI (by omega) (by omega)]; omega
    have q3 : IntKind.i64.wrap (now + win + 1 + more - now) = win + 1 + more := by rw [wrapI (by omega) (by omega)]; omega
    have q4 : IntKind.i64.wrap (now + win + 2 + more - (now + win + 2 + more)) = 0 := by rw [wrapI (by omega) (by omega)]; omega
    simp only [q1, q2, q3, q4]
    have s1 : sil now (now + win) win = false := by unfold sil; rw [c0, c1, c2]; simp; omega
    have s2 : sil now (now + win + 1) win = true := by unfold sil; rw [c0, c1, c3]; simp; omega
    have s3 : sil now (now + win + 1 + more) win = true := by unfold sil; rw [c0, c1, c4]; simp; omega
    have s4 : sil (now + win + 2 + more) (now + win + 2 + more) win = false := by unfold sil; rw [c0, c5]; simp; omega
    have l1 := chk_len (wnt false x.LowMem x.LowDisk (now + win)) x.Taints
    have l2 := wnt_len false x.LowMem x.LowDisk (now + win)
    have hC := chk_calm x.LowMem x.LowDisk (now + win) x.Taints
    generalize hA : chk (wnt false x.LowMem x.LowDisk (now + win)) x.Taints = A at *
    have f1 := F9_spec (x := (⟨x.Meta, x.Capacity, x.MaxPods, x.Cordoned, x.Taints, x.Ready, now, x.LowMem, x.LowDisk, x.Images⟩ : Node)) ⟨h.l, h.o, h.f, h.m, h.mf, h.t, h.i⟩ (now + win) win
    simp only [s1, c2, hA] at f1
    rw [f1]
    simp only [Option.bind_some]
    have f2 := F9_spec (x := (⟨x.Meta, x.Capacity, x.MaxPods, x.Cordoned, A, decide (¬ (win < win)), now, x.LowMem, x.LowDisk, x.Images⟩ : Node)) ⟨h.l, h.o, h.f, h.m, h.mf, (by show A.length ≤ _; omega), h.i⟩ (now + win + 1) win
    simp only [s2, c3, hC.hush (now + win + 1)] at f2
    rw [f2]
    simp only [Option.bind_some]
    have lN : (A ++ NN (now + win + 1)).length = A.length + 2 := by simp [NN]
    have f3 := F9_spec (x := (⟨x.Meta, x.Capacity, x.MaxPods, x.Cordoned, A ++ NN (now + win + 1), decide (¬ (win < win + 1)), now, x.LowMem, x.LowDisk, x.Images⟩ : Node)) ⟨h.l, h.o, h.f, h.m, h.mf, (by show (A ++ NN _).length ≤ _; omega), h.i⟩ (now + win + 1 + more) win
    simp only [s3, c4, hC.still (now + win + 1) (now + win + 1 + more)] at f3
    rw [f3]
    simp only [Option.bind_some]
    have f4 := F9_spec (x := (⟨x.Meta, x.Capacity, x.MaxPods, x.Cordoned, A ++ NN (now + win + 1), decide (¬ (win < win + 1 + more)), now + win + 2 + more, x.LowMem, x.LowDisk, x.Images⟩ : Node)) ⟨h.l, h.o, h.f, h.m, h.mf, (by show (A ++ NN _).length ≤ _; omega), h.i⟩ (now + win + 2 + more) win
    simp only [s4, c5, hC.back (now + win + 1) (now + win + 2 + more)] at f4
    have g1 : ¬ (win < win) := by omega
    have g2 : win < win + 1 := by omega
    have g3 : win < win + 1 + more := by omega
    have g4 : ¬ (win < 0) := by omega
    have g5 : IntKind.i64.wrap ((A.length : Int) + 2) = (A.length : Int) + 2 := wrapI (by omega) (by omega)
    have g6 : ((A ++ NN (now + win + 1)).length : Int) = (A.length : Int) + 2 := by rw [lN]; omega
    rw [F17_same _ (by omega)]
    simp only [g1, g2, g3, g5, g6, not_true_eq_false, not_false_eq_true, if_false, Option.bind_some, nb, Bool.not_true, Bool.false_eq_true, decide_false, decide_true]
    simp only [g3, not_true_eq_false, decide_false, g1, not_false_eq_true, decide_true] at f4
    rw [f4, F7_true]
    simp only [Option.bind_some, if_true, g4, not_false_eq_true, decide_true]
    have hn : Sn (⟨x.Meta, x.Capacity, x.MaxPods, x.Cordoned, A, true, now + win + 2 + more, x.LowMem, x.LowDisk, x.Images⟩ : Node) := ⟨⟨h.l, h.o, h.f, h.m, h.mf, (by show A.length ≤ _; omega), h.i⟩, h.k1, h.k2, h.k3⟩
    have := F8_same hn
    rw [this]; rfl
end Go.Proofs.Ytihhlgbcbmoblaa
