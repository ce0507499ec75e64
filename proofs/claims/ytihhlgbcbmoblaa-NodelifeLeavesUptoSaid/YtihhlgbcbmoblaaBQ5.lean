/- The plain laws, part 5. -/
import Derived.Test.YtihhlgbcbmoblaaBQ4
set_option linter.unusedVariables false
set_option linter.unusedSimpArgs false
namespace Go.Proofs.Ytihhlgbcbmoblaa
open Go Go.Fw
set_option maxRecDepth 100000

/-! The reference's sorted names. -/
def rmS (x : ByteArray) (l : List ByteArray) : List ByteArray := l.filter fun y => decide (y ≠ x)
def putR (x : ByteArray) : List ByteArray → List ByteArray
  | [] => [x]
  | y :: l => if lt y x then y :: putR x l else x :: rmS x (y :: l)
theorem lt_code (a b : ByteArray) : Op.bytesLess a.toList b.toList = decide (lt a b) := by
  rw [toList_bl, toList_bl, bless_lt]; exact decide_eq_decide.2 (lt_bl a b).symm
theorem F40_done (x : ByteArray) : ∀ (l : List ByteArray) (i : Nat) (o : List ByteArray), o.length + l.length ≤ 3000000 → F40_l1 x l i o true = some (o ++ rmS x l, true)
  | [], i, o, _ => by simp [F40_l1, rmS]
  | y :: l, i, o, h => by
    rw [F40_l1]
    simp only [List.length_cons] at h
    simp only [nb_not, Bool.not_true, Bool.false_eq_true, if_false, Option.bind_some]
    by_cases hy : y = x
    · rw [if_neg (by simpa using hy)]
      simp only [Option.bind_some]
      rw [F40_done x l (i + 1) o (by omega)]
      simp [rmS, hy]
    · rw [if_pos hy, apI_t (by simp; omega)]
      simp only [Option.bind_some]
      rw [F40_done x l (i + 1) _ (by simp; omega)]
      simp [rmS, hy]
theorem F40_spec1 (x : ByteArray) : ∀ (l : List ByteArray) (i : Nat) (o : List ByteArray), o.length + l.length ≤ 2000000 →
    (F40_l1 x l i o false).bind (fun o1 => if (nb o1.2) = true then (apI o1.1 ([x])).bind fun a13 => some a13 else some o1.1) = some (o ++ putR x l)
  | [], i, o, h => by
    simp only [F40_l1, Option.bind_some, nb_not, Bool.not_false, if_true]
    simp only [List.length_nil] at h
    rw [apI_t (by simp; omega)]; rfl
  | y :: l, i, o, h => by
    rw [F40_l1]
    simp only [List.length_cons] at h
    simp only [nb_not, Bool.not_false, if_true, Option.bind_some, lt_code]
    unfold putR
    by_cases hy : lt y x
    · rw [if_pos hy]
      simp only [hy, decide_true, Bool.not_true, Bool.false_eq_true, if_false, Option.bind_some]
      rw [if_pos (lt_ne hy), apI_t (by simp; omega)]
      simp only [Option.bind_some]
      have := F40_spec1 x l (i + 1) (o ++ [y]) (by simp; omega)
      simp only [nb_not] at this
      rw [this]; simp
    · rw [if_neg hy]
      simp only [hy, decide_false, Bool.not_false, if_true]
      rw [apI_t (by simp; omega)]
      simp only [Option.bind_some]
      by_cases hx : y = x
      · rw [if_neg (by simpa using hx)]
        simp only [Option.bind_some]
        rw [F40_done x l (i + 1) _ (by simp; omega)]
        simp [rmS, hx]
      · rw [if_pos hx, apI_t (by simp; omega)]
        simp only [Option.bind_some]
        rw [F40_done x l (i + 1) _ (by simp; omega)]
        simp [rmS, hx]
theorem F40_spec (x : ByteArray) (l : List ByteArray) (h : l.length ≤ 1999990) : F40 l x = some (putR x l) := by
  unfold F40
  rw [ck_t ⟨Nat.zero_le _, by omega⟩, Option.bind_some, F40_spec1 x l 0 [] (by simp; omega)]; rfl
theorem rmS_mem {x y : ByteArray} {l : List ByteArray} : y ∈ rmS x l ↔ y ∈ l ∧ y ≠ x := by simp [rmS]
theorem rmS_len (x : ByteArray) (l : List ByteArray) : (rmS x l).length ≤ l.length := List.length_filter_le ..
theorem putR_len (x : ByteArray) : ∀ l, (putR x l).length ≤ l.length + 1
  | [] => by simp [putR]
  | y :: l => by
    have := putR_len x l
    unfold putR
    split
    · simp; omega
    · have := rmS_len x (y :: l); simp at this ⊢; omega
theorem putR_mem (x z : ByteArray) : ∀ l, z ∈ putR x l ↔ z = x ∨ z ∈ l
  | [] => by simp [putR]
  | y :: l => by
    have := putR_mem x z l
    unfold putR
    split
    · simp only [List.mem_cons, this]
      exact ⟨fun h => h.elim (fun h => .inr (.inl h)) fun h => h.elim .inl fun h => .inr (.inr h), fun h => h.elim (fun h => .inr (.inl h)) fun h => h.elim .inl fun h => .inr (.inr h)⟩
    · rw [List.mem_cons, rmS_mem]
      by_cases hz : z = x <;> simp [hz]
theorem putR_pw (x : ByteArray) : ∀ {l : List ByteArray}, l.Pairwise lt → (putR x l).Pairwise lt
  | [], _ => by simp [putR]
  | y :: l, h => by
    have h2 := List.pairwise_cons.1 h
    unfold putR
    by_cases hy : lt y x
    · rw [if_pos hy]
      refine List.pairwise_cons.2 ⟨fun z hz => ?_, putR_pw x h2.2⟩
      rcases (putR_mem x z l).1 hz with e | hz
      · rw [e]; exact hy
      · exact h2.1 z hz
    · rw [if_neg hy]
      refine List.pairwise_cons.2 ⟨fun z hz => ?_, h.filter _⟩
      obtain ⟨h3, h4⟩ := rmS_mem.1 hz
      by_cases e : y = x
      · rcases List.mem_cons.1 h3 with e2 | h3
        · exact (h4 (e2.trans e)).elim
        · exact e ▸ h2.1 z h3
      · have hxy : lt x y := lt_of_not hy e
        rcases List.mem_cons.1 h3 with e2 | h3
        · exact e2 ▸ hxy
        · exact lt_trans hxy (h2.1 z h3)
def putA (o : List ByteArray) : List ByteArray → List ByteArray
  | [] => o
  | k :: l => putA (putR k o) l
theorem putA_pw : ∀ (l : List ByteArray) {o : List ByteArray}, o.Pairwise lt → (putA o l).Pairwise lt
  | [], _, h => h
  | k :: l, _, h => putA_pw l (putR_pw k h)
theorem putA_mem (z : ByteArray) : ∀ (l o : List ByteArray), z ∈ putA o l ↔ z ∈ o ∨ z ∈ l
  | [], o => by simp [putA]
  | k :: l, o => by
    rw [putA, putA_mem z l, putR_mem, List.mem_cons]
    exact ⟨fun h => h.elim (fun h => h.elim (fun h => .inr (.inl h)) .inl) fun h => .inr (.inr h), fun h => h.elim (fun h => .inl (.inr h)) fun h => h.elim (fun h => .inl (.inl h)) .inr⟩
theorem putA_eq (l : List ByteArray) : putA [] l = compL (sortL l) := by
  refine pw_uniq (putA_pw l List.Pairwise.nil) (compL_pw (sortL_pw l)) fun z => ?_
  rw [putA_mem, compL_mem, sortL_mem]; simp

/-! The reference's Leave. -/
theorem F41_spec {p : Pod} (h : Sp p) : F41 p.Meta = some (kf p.Meta) := by
  have h1 := h.k1; have h2 := h.k2; have h3 := h.k3
  unfold F41 F64
  have hs : (⟨#[47]⟩ : ByteArray).size = 1 := rfl
  rw [cat_t (by omega), Option.bind_some, cat_t (by rw [ByteArray.size_append]; omega), Option.bind_some, cat_t (by rw [ByteArray.size_append, ByteArray.size_append]; omega), Option.bind_some, cat_t (by rw [ByteArray.size_append, ByteArray.size_append, ByteArray.size_append]; omega)]
  rfl
theorem F37_l1_spec (s : ByteArray) : ∀ (l : List Node) (i : Nat), F37_l1 s l i = some (if fip (nmP s) l < l.length then .inl ((i + fip (nmP s) l : Nat) : Int) else .inr ())
  | [], i => rfl
  | y :: l, i => by
    have ih := F37_l1_spec s l (i + 1)
    rw [F37_l1]
    by_cases h1 : y.Meta.Name = s
    · have e : fip (nmP s) (y :: l) = 0 := by rw [fip, if_pos (by simp [nmP, h1])]
      rw [if_pos h1, e, if_pos (by simp)]; rfl
    · have e : fip (nmP s) (y :: l) = fip (nmP s) l + 1 := by rw [fip, if_neg (by simp [nmP, h1])]
      rw [if_neg h1, e, ih, List.length_cons]
      by_cases h2 : fip (nmP s) l < l.length
      · rw [if_pos h2, if_pos (by omega)]; congr 3; omega
      · rw [if_neg h2, if_neg (by omega)]
theorem F37_spec {ns : List Node} (s : ByteArray) (h : ns.length ≤ 1999000) : F37 ns s = some (if fip (nmP s) ns < ns.length then (fip (nmP s) ns : Int) else -1) := by
  unfold F37
  rw [ck_t ⟨Nat.zero_le _, by omega⟩, Option.bind_some, F37_l1_spec, Option.bind_some]
  by_cases h1 : fip (nmP s) ns < ns.length
  · rw [if_pos h1, if_pos h1]; simp
  · rw [if_neg h1, if_neg h1]
theorem F63_l1_spec : ∀ (l : List Owner) (i : Nat), F63_l1 l i = some (match l.find? (·.Controller) with | some o => .inl (o, true) | none => .inr ())
  | [], i => rfl
  | y :: l, i => by
    rw [F63_l1]
    cases h : y.Controller with
    | true => rw [if_pos rfl, List.find?_cons_of_pos h]; rfl
    | false => rw [if_neg (by simp), List.find?_cons_of_neg (by simp [h]), F63_l1_spec l (i + 1)]
theorem F63_spec {m : Meta} (h : m.Owners.length ≤ 1999000) : F63 m = some (ctl m) := by
  unfold F63 ctl
  rw [ck_t ⟨Nat.zero_le _, by omega⟩, Option.bind_some, F63_l1_spec, Option.bind_some]
  cases m.Owners.find? (·.Controller) <;> rfl
theorem F39_l5_spec : ∀ (l : List Taint) (i : Nat) (o : List Taint), o.length + l.length ≤ 1999990 → F39_l5 l i o = some (o ++ l.filter fun x => !mg x)
  | [], i, o, _ => by simp [F39_l5]
  | x :: l, i, o, hl => by
    simp only [List.length_cons] at hl
    rw [F39_l5, F30_spec]
    simp only [Option.bind_some, nb_not]
    cases h : mg x with
    | true =>
      simp only [Bool.not_true, Bool.false_eq_true, if_false, Option.bind_some]
      rw [F39_l5_spec l (i + 1) o (by omega), List.filter_cons_of_neg (by simp [h])]
    | false =>
      simp only [Bool.not_false, if_true]
      rw [apI_t (by simp; omega)]
      simp only [Option.bind_some]
      rw [F39_l5_spec l (i + 1) _ (by simp; omega), List.filter_cons_of_pos (by simp [h])]
      simp
theorem F39_spec {n : Node} {p : Pod} (hn : n.Taints.length ≤ 1999000) (hp : Sp p) : F39 n.Taints p = some (tnts n p) := by
  unfold F39 tnts dmn
  rw [F63_spec hp.o]
  simp only [Option.bind_some, nb_not]
  have e0 : (⟨#[68, 97, 101, 109, 111, 110, 83, 101, 116]⟩ : ByteArray) = kDS := rfl
  simp only [e0]
  cases h1 : (ctl p.Meta).2 with
  | false => simp
  | true =>
    by_cases h2 : (ctl p.Meta).1.Kind = kDS
    · simp only [Bool.not_true, Bool.false_eq_true, if_false, h2, not_true_eq_false, decide_false, Option.bind_some, decide_true, Bool.and_self, if_true]
      rw [ck_t ⟨Nat.zero_le _, by omega⟩]
      simp only [Option.bind_some]
      rw [F39_l5_spec _ 0 [] (by simp; omega)]; rfl
    · simp only [Bool.not_true, Bool.false_eq_true, if_false, h2, not_false_eq_true, decide_true, Option.bind_some, if_true, decide_false, Bool.and_false]
theorem F82_eq (x : Toleration) (t : Taint) : F82 x t = some (tol x t) := tol_code x t
theorem F69_l1_spec (t : Taint) : ∀ (l : List Toleration) (i : Nat) (o : List Toleration), o.length + l.length ≤ 1999990 → F69_l1 t l i o = some (o ++ l.filter fun x => tol x t)
  | [], i, o, _ => by simp [F69_l1]
  | x :: l, i, o, hl => by
    simp only [List.length_cons] at hl
    rw [F69_l1, F82_eq]
    simp only [Option.bind_some]
    cases h : tol x t with
    | false =>
      simp only [Bool.false_eq_true, if_false, Option.bind_some]
      rw [F69_l1_spec t l (i + 1) o (by omega), List.filter_cons_of_neg (by simp [h])]
    | true =>
      simp only [if_true]
      rw [apI_t (by simp; omega)]
      simp only [Option.bind_some]
      rw [F69_l1_spec t l (i + 1) _ (by simp; omega), List.filter_cons_of_pos (by simp [h])]
      simp
def mnT : List Toleration → Int → Option Int
  | [], a => some a
  | y :: l, a => if y.Seconds < 0 then none else mnT l (if y.Seconds < a then y.Seconds else a)
def cap (a : Int) : Int := if a < 0 then 1000000000000 else if a < 1000000000000 then a else 1000000000000
theorem mnT_cap : ∀ (l : List Toleration) (a : Int), mnT l (cap a) = (mnI l a).map cap
  | [], a => rfl
  | y :: l, a => by
    rw [mnT, mnI]
    by_cases h1 : y.Seconds < 0
    · rw [if_pos h1, if_pos h1]; rfl
    · rw [if_neg h1, if_neg h1, ← mnT_cap l]
      congr 1
      unfold cap
      (repeat' split) <;> omega
theorem mnI_pos : ∀ {l : List Toleration} {a b : Int}, mnI l a = some b → (l ≠ [] ∨ 0 ≤ a) → 0 ≤ b
  | [], a, b, h, h' => by
    rcases h' with h' | h'
    · exact (h' rfl).elim
    · unfold mnI at h; cases h; exact h'
  | y :: l, a, b, h, _ => by
    rw [mnI] at h
    by_cases h1 : y.Seconds < 0
    · rw [if_pos h1] at h; cases h
    · rw [if_neg h1] at h
      exact mnI_pos h (.inr (by split <;> omega))
theorem F62_l4_spec (l : List Toleration) : ∀ (xs : List Toleration) (i : Nat) (a : Int), l.drop i = xs → F62_l4 l xs i a = some (match mnT xs a with | none => .inl (0, false) | some b => .inr b)
  | [], i, a, _ => rfl
  | y :: xs, i, a, hd => by
    have hi : l[i]? = some y := by
      have := congrArg (·[0]?) hd
      simpa using this
    have hd2 : l.drop (i + 1) = xs := by
      have := congrArg (List.drop 1) hd
      simpa [List.drop_drop, Nat.add_comm] using this
    rw [F62_l4, rdI_nat, hi, mnT]
    simp only [Option.bind_some]
    by_cases h1 : y.Seconds < 0
    · rw [if_pos h1, if_pos h1]; rfl
    · rw [if_neg h1, if_neg h1]
      exact F62_l4_spec l xs (i + 1) _ hd2
theorem F62_spec (t : Taint) (l : List Toleration) (h : l.length ≤ 1999000) : F62 t l = some (if t.Effect = 3 then lvT t l else (0, false)) := by
  unfold F62 lvT
  by_cases h3 : t.Effect = 3
  · have h1 := clT_r t.Since
    rw [if_neg (by simp [h3]), if_pos h3]
    unfold F69
    rw [ck_t ⟨Nat.zero_le _, by omega⟩, Option.bind_some, F69_l1_spec t l 0 [] (by simp; omega)]
    simp only [Option.bind_some, List.nil_append, clT_ref]
    have hfl : (l.filter fun x => tol x t).length ≤ l.length := List.length_filter_le ..
    generalize hm : (l.filter fun x => tol x t) = m at *
    cases m with
    | nil =>
      simp only [List.length_nil]
      have e1 : clT (-1) = 0 := by decide
      rw [if_pos (by rfl)]
      simp only [mnI, e1, Int.add_zero]
      rw [clT_id h1.1 h1.2]
    | cons y m =>
      rw [if_neg (by simp; omega), ck_t ⟨Nat.zero_le _, by omega⟩, Option.bind_some, F62_l4_spec (y :: m) (y :: m) 0 _ rfl, Option.bind_some]
      have hc := mnT_cap (y :: m) (-1)
      rw [show cap (-1) = 1000000000000 from rfl] at hc
      rw [hc]
      cases hi : mnI (y :: m) (-1) with
      | none => rfl
      | some a =>
        have ha := mnI_pos hi (.inl (by simp))
        have hca : cap a = clT a := by unfold cap clT; (repeat' split) <;> omega
        have h2 := clT_r a
        have hw : IntKind.i64.wrap (clT t.Since + clT a) = clT t.Since + clT a := wrapI (by omega) (by omega)
        simp only [Option.map_some, hca, hw]
        rw [← clT_pos (by omega : 0 ≤ clT t.Since + clT a)]
        congr 2
        split <;> split <;> omega
  · rw [if_pos h3, if_neg h3]
theorem F38_l1_spec (tl : List Toleration) (h : tl.length ≤ 1999000) : ∀ (l : List Taint) (i : Nat) (a : Int) (b : Bool), F38_l1 tl l i a b = some (evL tl l a b)
  | [], i, a, b => rfl
  | x :: l, i, a, b => by
    rw [F38_l1, evL, F62_spec x tl h]
    simp only [Option.bind_some]
    by_cases h1 : x.Effect = 3
    · rw [if_pos h1]
      simp only [h1, true_and]
      cases h2 : (lvT x tl).2 with
      | false =>
        simp only [Bool.false_eq_true, if_false, Option.bind_some, false_and]
        exact F38_l1_spec tl h l (i + 1) a b
      | true =>
        simp only [if_true, true_and]
        cases b with
        | false =>
          simp only [nb, Bool.not_false, if_true, Option.bind_some, true_or]
          exact F38_l1_spec tl h l (i + 1) _ _
        | true =>
          simp only [nb, Bool.not_true, Bool.false_eq_true, if_false, Option.bind_some, false_or, Bool.true_eq_false]
          by_cases h3 : (lvT x tl).1 < a
          · simp only [h3, decide_true, if_true, Option.bind_some]
            exact F38_l1_spec tl h l (i + 1) _ _
          · simp only [h3, decide_false, Bool.false_eq_true, if_false, Option.bind_some]
            exact F38_l1_spec tl h l (i + 1) _ _
    · rw [if_neg h1, if_neg (fun c : x.Effect = 3 ∧ (lvT x tl).2 = true ∧ (b = false ∨ (lvT x tl).1 < a) => h1 c.1)]
      simp only [Bool.false_eq_true, if_false, Option.bind_some]
      exact F38_l1_spec tl h l (i + 1) a b
theorem F38_spec (l : List Taint) (tl : List Toleration) (h : l.length ≤ 1999000) (h' : tl.length ≤ 1999000) : F38 l tl = some (evL tl l 0 false) := by
  unfold F38
  rw [ck_t ⟨Nat.zero_le _, by omega⟩, Option.bind_some, F38_l1_spec tl h', Option.bind_some]
theorem F14_l1_spec : ∀ (l : List Node) (i : Nat) (b : Bool), F14_l1 l i b = some (b || l.any (·.Ready))
  | [], i, b => by simp [F14_l1]
  | y :: l, i, b => by
    rw [F14_l1]
    cases b with
    | true => simp only [if_true, Option.bind_some]; rw [F14_l1_spec l (i + 1)]; simp
    | false => simp only [Bool.false_eq_true, if_false, Option.bind_some]; rw [F14_l1_spec l (i + 1)]; simp
theorem F14_l6_spec {ns : List Node} {ps : List Pod} (hs : Sl ns ps) (now : Int) : ∀ (n k i : Nat) (o : List ByteArray), ps.length = i + n → n < k → o.length ≤ i →
    F14_l6 true ns ps now k o (i : Int) = some (putA o (((ps.drop i).filter (lvs ns now)).map fun p => kf p.Meta))
  | _, 0, i, o, _, hk, _ => by omega
  | 0, k + 1, i, o, h, hk, _ => by
    rw [F14_l6, if_neg (by omega), List.drop_of_length_le (by omega)]; rfl
  | n + 1, k + 1, i, o, h, hk, ho => by
    have hi : i < ps.length := by omega
    have hpl := hs.p
    have hp := hs.s _ (List.getElem_mem hi)
    have e1 : IntKind.i64.wrap ((i : Int) + 1) = ((i + 1 : Nat) : Int) := wrapN (by omega)
    rw [F14_l6, if_pos (by omega), List.drop_eq_getElem_cons hi, rdI_at hi]
    simp only [Option.bind_some, if_true]
    rw [F37_spec _ hs.n]
    simp only [Option.bind_some, e1]
    have hf := fip_find (nmP ps[i].Spec.Node) ns
    have ekE : (⟨#[]⟩ : ByteArray) = kE := rfl
    simp only [ekE]
    have hno : lvs ns now ps[i] = false → F14_l6 true ns ps now k o ((i + 1 : Nat) : Int) = some (putA o (((ps[i] :: ps.drop (i + 1)).filter (lvs ns now)).map fun p => kf p.Meta)) := by
      intro hl
      rw [F14_l6_spec hs now n k (i + 1) o (by omega) (by omega) (by omega), List.filter_cons_of_neg (by simp [hl])]
    have hnone : fnd ns ps[i] = none → lvs ns now ps[i] = false := fun e => by unfold lvs; rw [e]
    have hdel : ps[i].Meta.Deleting = true → lvs ns now ps[i] = false := fun e => by unfold lvs; rw [e]; cases fnd ns ps[i] <;> rfl
    by_cases hE : ps[i].Spec.Node = kE
    · have hlv := hnone (by unfold fnd; rw [if_pos hE])
      cases hd : ps[i].Meta.Deleting with
      | true => simp only [if_true, Option.bind_some]; exact hno hlv
      | false => simp only [Bool.false_eq_true, if_false, hE, if_true, Option.bind_some]; exact hno hlv
    · by_cases h1 : fip (nmP ps[i].Spec.Node) ns < ns.length
      · generalize hN : ns[fip (nmP ps[i].Spec.Node) ns] = N at *
        have hNm : N ∈ ns := hN ▸ List.getElem_mem h1
        have hNt := hs.t N hNm
        cases hd : ps[i].Meta.Deleting with
        | true =>
          simp only [if_true, Option.bind_some]
          exact hno (hdel hd)
        | false =>
          simp only [Bool.false_eq_true, if_false, hE, h1, if_true, Option.bind_some]
          rw [if_neg (by simp), rdI_at h1, hN]
          simp only [Option.bind_some]
          rw [F39_spec hNt hp]
          simp only [Option.bind_some]
          have := tnts_len N ps[i]
          rw [F38_spec _ _ (by omega) hp.t]
          simp only [Option.bind_some, F28, clT_ref]
          have e2 : ((if (evL ps[i].Spec.Tolerations (tnts N ps[i]) 0 false).2 = true then some (decide ((evL ps[i].Spec.Tolerations (tnts N ps[i]) 0 false).1 ≤ clT now)) else some false) : Option Bool) = some (lvs ns now ps[i]) := by
            show _ = some (lvs ns now ps[i])
            have hlv2 : lvs ns now ps[i] = ((evL ps[i].Spec.Tolerations (tnts N ps[i]) 0 false).2 && decide ((evL ps[i].Spec.Tolerations (tnts N ps[i]) 0 false).1 ≤ clT now)) := by
              unfold lvs fnd
              rw [if_neg hE, ← hf, List.getElem?_eq_getElem h1]
              simp only [hN, hd, Bool.not_false, Bool.true_and]
            rw [hlv2]
            cases (evL ps[i].Spec.Tolerations (tnts N ps[i]) 0 false).2 <;> rfl
          rw [e2]
          simp only [Option.bind_some]
          cases hl : lvs ns now ps[i] with
          | false =>
            simp only [Bool.false_eq_true, if_false, Option.bind_some]
            exact hno hl
          | true =>
            simp only [if_true]
            rw [F41_spec hp]
            simp only [Option.bind_some]
            rw [F40_spec _ _ (by omega)]
            simp only [Option.bind_some]
            have := putR_len (kf ps[i].Meta) o
            rw [F14_l6_spec hs now n k (i + 1) _ (by omega) (by omega) (by omega), List.filter_cons_of_pos (by simp [hl])]
            rfl
      · have hlv := hnone (by unfold fnd; rw [if_neg hE, ← hf, List.getElem?_eq_none (by omega)])
        cases hd : ps[i].Meta.Deleting with
        | true => simp only [if_true, Option.bind_some]; exact hno hlv
        | false =>
          simp only [Bool.false_eq_true, if_false, hE, h1, Option.bind_some]
          rw [if_pos (by simp)]
          simp only [Option.bind_some]; exact hno hlv
theorem F14_spec {ns : List Node} {ps : List Pod} (h : Sl ns ps) (now : Int) : F14 ns ps now = some (lft ns ps now) := by
  have hn := h.n; have hp := h.p
  unfold F14 lft
  rw [ck_t ⟨Nat.zero_le _, by omega⟩, Option.bind_some, F14_l1_spec, Option.bind_some, Bool.false_or]
  cases ns.any (·.Ready) with
  | true =>
    have := F14_l6_spec h now ps.length 1099511627776 0 [] (by omega) (by omega) (by simp)
    rw [List.drop_zero] at this
    rw [if_pos rfl, ← putA_eq]
    exact congrArg (fun o => o.bind fun x => some x) this
  | false =>
    rw [if_neg (by simp)]
    show (F14_l6 false ns ps now (1099511627775 + 1) [] 0).bind _ = _
    rw [F14_l6]
    by_cases hl : (0 : Int) < ps.length
    · rw [if_pos hl]; rfl
    · rw [if_neg hl]; rfl
theorem F16_l1_spec {ns : List Node} (hn : ns.length ≤ 1999000) : ∀ (l : List Pod) (i : Nat) (o : List ByteArray), (∀ p ∈ l, Sp p) → o.length + l.length ≤ 1999990 → F16_l1 ns l i o = some (putA o ((l.filter (gnd ns)).map fun p => kf p.Meta))
  | [], i, o, _, _ => by simp [F16_l1, putA]
  | p :: l, i, o, hp, hl => by
    simp only [List.length_cons] at hl
    have hp0 := hp p (List.mem_cons_self ..)
    have ekE : (⟨#[]⟩ : ByteArray) = kE := rfl
    rw [F16_l1]
    have e1 : ((if ¬ (p.Spec.Node = (⟨#[]⟩ : ByteArray)) then (F37 ns p.Spec.Node).bind fun t6 => some (decide (t6 < 0)) else some false) : Option Bool) = some (gnd ns p) := by
      have hf := fip_find (nmP p.Spec.Node) ns
      unfold gnd fnd
      simp only [ekE]
      by_cases hE : p.Spec.Node = kE
      · simp [hE]
      · rw [if_pos hE, if_neg hE, F37_spec _ hn, ← hf]
        by_cases h1 : fip (nmP p.Spec.Node) ns < ns.length
        · rw [if_pos h1, List.getElem?_eq_getElem h1]; simp
        · rw [if_neg h1, List.getElem?_eq_none (by omega)]; simp [hE]
    rw [e1]
    simp only [Option.bind_some]
    cases h : gnd ns p with
    | true =>
      simp only [if_true]
      rw [F41_spec hp0]
      simp only [Option.bind_some]
      rw [F40_spec _ _ (by omega)]
      simp only [Option.bind_some]
      have := putR_len (kf p.Meta) o
      rw [F16_l1_spec hn l (i + 1) _ (fun q hq => hp q (List.mem_cons_of_mem _ hq)) (by omega), List.filter_cons_of_pos (by simpa using h)]
      rfl
    | false =>
      simp only [Bool.false_eq_true, if_false, Option.bind_some]
      rw [F16_l1_spec hn l (i + 1) _ (fun q hq => hp q (List.mem_cons_of_mem _ hq)) (by omega), List.filter_cons_of_neg (by simp [h])]
theorem F16_spec {ns : List Node} {ps : List Pod} (h : Sl ns ps) : F16 ns ps = some (gon ns ps) := by
  have hp := h.p
  unfold F16 gon
  rw [ck_t ⟨Nat.zero_le _, by omega⟩, Option.bind_some, F16_l1_spec h.n ps 0 [] h.s (by simp; omega), putA_eq]; rfl
theorem F12_l2_spec (l : List ByteArray) : ∀ n i, l.length = i + n → F12_l2 l (l.drop i) i = some (.inr ())
  | 0, i, h => by rw [List.drop_of_length_le (by omega)]; rfl
  | n + 1, i, h => by
    have hi : i < l.length := by omega
    rw [List.drop_eq_getElem_cons hi, F12_l2, rdI_at hi]
    simp only [Option.bind_some, not_true_eq_false, if_false]
    exact F12_l2_spec l n (i + 1) (by omega)
theorem F12_same (l : List ByteArray) (h : l.length ≤ 2000000) : F12 l l = some true := by
  unfold F12
  rw [if_neg (by simp), ck_t ⟨Nat.zero_le _, by omega⟩]
  have := F12_l2_spec l l.length 0 (by omega)
  rw [List.drop_zero] at this
  simp only [Option.bind_some, this]

theorem NodelifeLeaves_pure : NodelifeLeaves.Pure := by
  intro ns ps now _ _ _ hw
  have h := sl_of (ns := ns) (ps := ps) (by omega)
  have hp := h.p
  unfold F4 F11
  rw [F7_true]
  have hb : ∃ b : Bool, ((if (ns.length : Int) ≤ 20 then some (decide ((ps.length : Int) ≤ 50)) else some false) : Option Bool) = some b := by
    split <;> exact ⟨_, rfl⟩
  obtain ⟨b, hb⟩ := hb
  rw [hb]
  simp only [Option.bind_some, nb_not]
  cases b with
  | false => rfl
  | true =>
    have l1 := lft_len ns ps now
    have l2 := gon_len ns ps
    simp only [Bool.not_true, Bool.false_eq_true, if_false, if_true]
    rw [F13_spec h, F14_spec h]
    simp only [Option.bind_some]
    rw [F12_same _ (by omega)]
    simp only [Option.bind_some, if_true]
    rw [F15_spec h, F16_spec h]
    simp only [Option.bind_some]
    rw [F12_same _ (by omega)]; rfl
end Go.Proofs.Ytihhlgbcbmoblaa
