/- The plain law. -/
import Derived.Test.YtfkkccgopmcnaaaAP
import Derived.Test.YtfkkccgopmcnaaaFP
import Derived.KernelRfl
set_option linter.unusedVariables false
set_option linter.unusedSimpArgs false
namespace Go.Proofs.Ytfkkccgopmcnaaa
open Go Go.Fw
set_option maxRecDepth 1000000
theorem F9_t : F9 = some true := by kernel_rfl
set_option maxRecDepth 100000

theorem bless_lt : ∀ x y : List UInt8, Op.bytesLess x y = decide (x < y)
  | [], [] => by simp [Op.bytesLess]
  | [], b :: y => by simp [Op.bytesLess]
  | a :: x, [] => by simp [Op.bytesLess]
  | a :: x, b :: y => by
    rw [Op.bytesLess, bless_lt x y, Bool.eq_iff_iff]
    simp only [Bool.or_eq_true, decide_eq_true_eq, Bool.and_eq_true, beq_iff_eq, List.cons_lt_cons_iff]
theorem toList_bl (b : ByteArray) : b.toList = bl b := by
  rw [show bl b = b.data.toList from rfl]; exact Go.ByteArray.toList_eq b
theorem lt_bl (a b : ByteArray) : lt a b ↔ bl a < bl b := by
  unfold lt; rw [toList_bl, toList_bl, bless_lt]; simp
theorem sortL_perm (xs : List ByteArray) : (sortL xs).Perm xs := by
  have h := (List.mergeSort_perm (xs.map bl) (fun x y => decide (x ≤ y))).map lb
  rw [List.map_map] at h
  have e : xs.map (lb ∘ bl) = xs := by
    have : (lb ∘ bl) = id := funext lb_bl
    rw [this, List.map_id]
  rw [e] at h; rw [sortL_eq]; exact h
theorem sortL_mem (z : ByteArray) (xs : List ByteArray) : z ∈ sortL xs ↔ z ∈ xs := (sortL_perm xs).mem_iff
theorem sortL_pw (xs : List ByteArray) : (sortL xs).Pairwise fun a b => ¬ lt b a := by
  have h := List.pairwise_mergeSort (le := fun x y : List UInt8 => decide (x ≤ y)) (fun a b c h1 h2 => by simp only [decide_eq_true_eq] at *; exact List.le_trans h1 h2) (fun a b => by simp only [Bool.or_eq_true, decide_eq_true_eq]; exact List.le_total a b) (xs.map bl)
  rw [sortL_eq, List.pairwise_map]
  refine h.imp fun {a b} hab => ?_
  rw [lt_bl, bl_lb, bl_lb]
  simp only [decide_eq_true_eq] at hab
  exact List.not_lt.2 hab
theorem pw_uniq : ∀ {a b : List ByteArray}, a.Pairwise lt → b.Pairwise lt → (∀ z, z ∈ a ↔ z ∈ b) → a = b
  | [], [], _, _, _ => rfl
  | [], y :: b, _, _, h => by have := (h y).2 (List.mem_cons_self ..); cases this
  | x :: a, [], _, _, h => by have := (h x).1 (List.mem_cons_self ..); cases this
  | x :: a, y :: b, ha, hb, h => by
    have ha2 := List.pairwise_cons.1 ha
    have hb2 := List.pairwise_cons.1 hb
    have hxy : x = y := by
      rcases List.mem_cons.1 ((h x).1 (List.mem_cons_self ..)) with e | hx
      · exact e
      · rcases List.mem_cons.1 ((h y).2 (List.mem_cons_self ..)) with e | hy
        · exact e.symm
        · exact (lt_asymm (hb2.1 x hx) (ha2.1 y hy)).elim
    subst hxy
    congr 1
    refine pw_uniq ha2.2 hb2.2 fun z => ⟨fun hz => ?_, fun hz => ?_⟩
    · rcases List.mem_cons.1 ((h z).1 (List.mem_cons_of_mem _ hz)) with e | hz2
      · exact (lt_irrefl x (e ▸ ha2.1 z hz)).elim
      · exact hz2
    · rcases List.mem_cons.1 ((h z).2 (List.mem_cons_of_mem _ hz)) with e | hz2
      · exact (lt_irrefl x (e ▸ hb2.1 z hz)).elim
      · exact hz2

theorem getM_putM {α : Type} (k k' : ByteArray) (v : α) : ∀ m : List (ByteArray × α), getM k (putM k' v m) = if k' = k then some v else getM k m
  | [] => by simp [putM, getM]
  | e :: r => by
    unfold putM
    by_cases h : e.1 = k'
    · rw [if_pos h]
      by_cases h2 : k' = k
      · rw [if_pos h2, getM, if_pos h2]
      · rw [if_neg h2, getM, if_neg h2, getM, if_neg (by rw [h]; exact h2)]
    · rw [if_neg h, getM, getM_putM k k' v r, getM]
      by_cases h2 : e.1 = k
      · rw [if_pos h2, if_pos h2, if_neg (by rw [← h2]; exact fun h' => h h'.symm)]
      · rw [if_neg h2, if_neg h2]
theorem putM_new {α : Type} (k : ByteArray) (v : α) : ∀ m : List (ByteArray × α), (getM k m).isSome = false → putM k v m = m ++ [(k, v)]
  | [], _ => rfl
  | e :: r, h => by
    unfold getM at h
    unfold putM
    by_cases h2 : e.1 = k
    · rw [if_pos h2] at h; simp at h
    · rw [if_neg h2] at h
      rw [if_neg h2, putM_new k v r h]; rfl
theorem getM_mem {α : Type} (k : ByteArray) : ∀ m : List (ByteArray × α), (getM k m).isSome = true ↔ k ∈ m.map Prod.fst
  | [] => by simp [getM]
  | e :: r => by
    unfold getM
    by_cases h : e.1 = k
    · simp [h]
    · rw [if_neg h, getM_mem k r]; simp [Ne.symm h]

def fst1 (l : List Endpoint) (k : ByteArray) : Option Endpoint := l.find? fun x => decide (x.Pod = k)
def has (l : List Endpoint) (k : ByteArray) : Bool := (fst1 l k).isSome
def idxF : List Endpoint → List (ByteArray × Endpoint) → List (ByteArray × Endpoint)
  | [], m => m
  | x :: l, m => idxF l (if (getM x.Pod m).isSome = true then m else putM x.Pod x m)
theorem F33_l1_t : ∀ (l : List Endpoint) (i : Nat) (m : List (ByteArray × Endpoint)), F33_l1 l i m = some (idxF l m)
  | [], i, m => by rw [F33_l1, idxF]
  | x :: l, i, m => by
    rw [F33_l1, idxF, nb_not]
    cases h : (getM x.Pod m).isSome
    · simp [F33_l1_t l]
    · simp [F33_l1_t l]
theorem idxF_get (k : ByteArray) : ∀ (l : List Endpoint) (m : List (ByteArray × Endpoint)), getM k (idxF l m) = match getM k m with | some e => some e | none => fst1 l k
  | [], m => by rw [idxF]; cases getM k m <;> rfl
  | x :: l, m => by
    rw [idxF, idxF_get k l]
    by_cases h : x.Pod = k
    · subst h
      cases hg : getM x.Pod m with
      | some e => simp [hg]
      | none => simp [getM_putM, fst1]
    · have : fst1 (x :: l) k = fst1 l k := by simp [fst1, h]
      rw [this]
      cases hg : (getM x.Pod m).isSome
      · simp [getM_putM, h]
      · simp
theorem idxF_nodup : ∀ (l : List Endpoint) (m : List (ByteArray × Endpoint)), (m.map Prod.fst).Nodup → ((idxF l m).map Prod.fst).Nodup
  | [], m, h => by rw [idxF]; exact h
  | x :: l, m, h => by
    rw [idxF]
    refine idxF_nodup l _ ?_
    cases hg : (getM x.Pod m).isSome
    · simp only [Bool.false_eq_true, if_false]
      rw [putM_new _ _ _ hg, List.map_append]
      refine List.nodup_append.2 ⟨h, by simp, fun a ha b hb => ?_⟩
      simp only [List.map_cons, List.map_nil, List.mem_singleton] at hb
      subst hb
      intro e
      subst e
      rw [(getM_mem _ m).2 ha] at hg; cases hg
    · simp only [if_true]; exact h
theorem idxF_keys (k : ByteArray) (l : List Endpoint) : k ∈ (idxF l []).map Prod.fst ↔ has l k = true := by
  rw [← getM_mem, idxF_get]; rfl
theorem idxF_len : ∀ (l : List Endpoint) (m : List (ByteArray × Endpoint)), (idxF l m).length ≤ m.length + l.length
  | [], m => by rw [idxF]; simp
  | x :: l, m => by
    rw [idxF]
    have := idxF_len l (if (getM x.Pod m).isSome = true then m else putM x.Pod x m)
    cases hg : (getM x.Pod m).isSome
    · rw [hg] at this
      simp only [Bool.false_eq_true, if_false] at this ⊢
      rw [putM_new _ _ _ hg] at this ⊢
      simp at this ⊢; omega
    · rw [hg] at this
      simp only [if_true] at this ⊢
      simp; omega
theorem F33_t (s : EndpointSet) (h : s.Items.length ≤ 4294967290) : F33 s = some (idxF s.Items []) := by
  unfold F33
  rw [ck_t ⟨by omega, h⟩, Option.bind_some, F33_l1_t]; rfl

def insU (s : ByteArray) : List ByteArray → List ByteArray
  | [] => [s]
  | y :: r => if lt y s then y :: insU s r else if y = s then y :: r else s :: y :: r
theorem insU_mem (s z : ByteArray) : ∀ l, z ∈ insU s l ↔ z = s ∨ z ∈ l
  | [] => by simp [insU]
  | y :: r => by
    unfold insU
    split
    · rw [List.mem_cons, insU_mem s z r, List.mem_cons]
      constructor
      · rintro (h | h | h) <;> simp [h]
      · rintro (h | h | h) <;> simp [h]
    split
    · rename_i h; subst h; simp
    · simp
theorem insU_pw (s : ByteArray) : ∀ {l : List ByteArray}, l.Pairwise lt → (insU s l).Pairwise lt
  | [], _ => by simp [insU]
  | y :: r, h => by
    have h2 := List.pairwise_cons.1 h
    unfold insU
    split
    · rename_i hl
      refine List.pairwise_cons.2 ⟨fun z hz => ?_, insU_pw s h2.2⟩
      rcases (insU_mem s z r).1 hz with rfl | hz
      · exact hl
      · exact h2.1 z hz
    split
    · exact h
    · rename_i h1 h3
      have hs := lt_of_not h1 h3
      refine List.pairwise_cons.2 ⟨fun z hz => ?_, h⟩
      rcases List.mem_cons.1 hz with rfl | hz
      · exact hs
      · exact lt_trans hs (h2.1 z hz)
theorem insU_len (s : ByteArray) : ∀ l, (insU s l).length ≤ l.length + 1
  | [] => by simp [insU]
  | y :: r => by
    unfold insU
    split
    · have := insU_len s r; simp; omega
    split <;> simp
def lw (s : ByteArray) (l : List ByteArray) : Nat := (l.takeWhile fun y => decide (lt y s)).length
theorem lw_le (s : ByteArray) (l : List ByteArray) : lw s l ≤ l.length := (List.takeWhile_sublist _).length_le
theorem F37_l1_t (x : List ByteArray) (s : ByteArray) (hb : x.length ≤ 100000) : ∀ (d i k : Nat), x.length = i + d → d < k → F37_l1 x s k (i : Int) = some ((i + lw s (x.drop i) : Nat) : Int)
  | 0, i, k + 1, hl, _ => by
    rw [F37_l1, if_neg (by omega), List.drop_of_length_le (by omega)]; rfl
  | d + 1, i, k + 1, hl, hk => by
    have hlt : i < x.length := by omega
    rw [F37_l1, if_pos (by omega), rdI_at hlt, List.drop_eq_getElem_cons hlt]
    simp only [Option.bind_some, bl_lt]
    rw [wrapN (by omega), F37_l1_t x s hb d (i + 1) k (by omega) (by omega)]
    by_cases h : lt x[i] s
    · simp only [lw, List.takeWhile_cons, h, decide_true, if_true, List.length_cons]
      congr 2; omega
    · simp only [lw, List.takeWhile_cons, h, decide_false, Bool.false_eq_true, if_false, List.length_nil, Nat.add_zero]
theorem insU_lw (s : ByteArray) : ∀ x : List ByteArray, insU s x = if x[lw s x]? = some s then x else x.take (lw s x) ++ [s] ++ x.drop (lw s x)
  | [] => by simp [insU, lw]
  | y :: r => by
    unfold insU
    by_cases h : lt y s
    · rw [if_pos h, insU_lw s r]
      have e : lw s (y :: r) = lw s r + 1 := by simp [lw, List.takeWhile_cons, h]
      rw [e]
      simp only [List.getElem?_cons_succ, List.take_succ_cons, List.drop_succ_cons]
      split <;> simp
    · rw [if_neg h]
      have e : lw s (y :: r) = 0 := by simp [lw, List.takeWhile_cons, h]
      rw [e]
      simp
theorem F37_t (x : List ByteArray) (s : ByteArray) (hb : x.length ≤ 100000) : F37 x s = some (insU s x) := by
  unfold F37
  have h1 := F37_l1_t x s hb x.length 0 1099511627776 (by omega) (by omega)
  rw [show ((0 : Nat) : Int) = 0 from rfl, List.drop_zero, Nat.zero_add] at h1
  have hle := lw_le s x
  rw [h1, Option.bind_some, insU_lw]
  generalize lw s x = j at hle ⊢
  have ins : ((slI x 0 (j : Int)).bind fun s10 => (apI ([] : List ByteArray) s10).bind fun a11 => (apI a11 ([s])).bind fun a12 => (slI x (j : Int) ((x.length : Int))).bind fun s13 => (apI a12 s13).bind fun a14 => some a14) = some (x.take j ++ [s] ++ x.drop j) := by
    rw [show (0 : Int) = ((0 : Nat) : Int) from rfl, slI_t (Nat.zero_le _) hle, Option.bind_some, apI_t (by simp; omega), Option.bind_some, apI_t (by simp; omega), Option.bind_some, slI_t hle (Nat.le_refl _), Option.bind_some, apI_t (by simp; omega)]
    have e : (x.drop j).take (x.length - j) = x.drop j := List.take_of_length_le (by simp)
    rw [e]; simp
  by_cases hj : j < x.length
  · rw [if_pos (by omega), rdI_at hj, List.getElem?_eq_getElem hj]
    by_cases he : x[j] = s
    · simp [he]
    · simp only [he, Option.bind_some, decide_false, Bool.false_eq_true, if_false, Option.some.injEq]
      exact ins
  · rw [if_neg (by omega), List.getElem?_eq_none (by omega)]
    simp only [Option.bind_some, Bool.false_eq_true, if_false, reduceCtorEq]
    exact ins
def refF (p : ByteArray → Bool) : List Endpoint → List ByteArray → List ByteArray
  | [], a => a
  | x :: l, a => refF p l (if p x.Pod = true then insU x.Pod a else a)
theorem has_cons (x : Endpoint) (l : List Endpoint) (z : ByteArray) : has (x :: l) z = (decide (x.Pod = z) || has l z) := by
  unfold has fst1
  rw [List.find?_cons]
  by_cases h : x.Pod = z <;> simp [h]
theorem refF_mem (p : ByteArray → Bool) (z : ByteArray) : ∀ (l : List Endpoint) (a : List ByteArray), z ∈ refF p l a ↔ z ∈ a ∨ (p z = true ∧ has l z = true)
  | [], a => by simp [refF, has, fst1]
  | x :: l, a => by
    rw [refF, refF_mem p z l, has_cons]
    by_cases h : x.Pod = z
    · subst h
      cases hp : p x.Pod <;> simp [insU_mem, hp]
    · cases hp : p x.Pod <;> simp [insU_mem, h, Ne.symm h]
theorem refF_pw (p : ByteArray → Bool) : ∀ (l : List Endpoint) {a : List ByteArray}, a.Pairwise lt → (refF p l a).Pairwise lt
  | [], a, h => h
  | x :: l, a, h => by
    rw [refF]
    refine refF_pw p l ?_
    split
    · exact insU_pw _ h
    · exact h
theorem refF_len (p : ByteArray → Bool) : ∀ (l : List Endpoint) (a : List ByteArray), (refF p l a).length ≤ a.length + l.length
  | [], a => by simp [refF]
  | x :: l, a => by
    rw [refF]
    have := refF_len p l (if p x.Pod = true then insU x.Pod a else a)
    have h2 := insU_len x.Pod a
    split at this
    · rename_i hp; rw [if_pos hp]; simp; omega
    · rename_i hp; rw [if_neg hp]; simp; omega
def S (p : ByteArray → Bool) (l : List Endpoint) : List ByteArray := refF p l []
theorem S_mem (p : ByteArray → Bool) (l : List Endpoint) (z : ByteArray) : z ∈ S p l ↔ p z = true ∧ has l z = true := by simp [S, refF_mem]
theorem S_pw (p : ByteArray → Bool) (l : List Endpoint) : (S p l).Pairwise lt := refF_pw p l List.Pairwise.nil
theorem S_eq {p q : ByteArray → Bool} {l m : List Endpoint} (h : ∀ z, (p z && has l z) = (q z && has m z)) : S p l = S q m := by
  refine pw_uniq (S_pw p l) (S_pw q m) fun z => ?_
  rw [S_mem, S_mem]
  have := h z
  rw [Bool.eq_iff_iff] at this
  simpa using this
theorem S_len (p : ByteArray → Bool) (l : List Endpoint) : (S p l).length ≤ l.length := by have := refF_len p l []; simpa [S] using this
theorem sort_nd {ks : List ByteArray} (h : ks.Nodup) : (sortL ks).Pairwise lt := by
  have h1 := sortL_pw ks
  have h2 : (sortL ks).Nodup := (sortL_perm ks).nodup_iff.2 h
  exact (h1.and h2).imp fun {a b} hab => lt_of_not hab.1 (Ne.symm hab.2)
theorem sorted_S (p : ByteArray → Bool) (l : List Endpoint) : (sortL ((idxF l []).map Prod.fst)).filter p = S p l := by
  refine pw_uniq ((sort_nd (idxF_nodup l [] (by simp))).filter _) (S_pw p l) fun z => ?_
  rw [List.mem_filter, sortL_mem, idxF_keys, S_mem, and_comm]

def eqE (x y : Endpoint) : Bool := decide (x.Pod = y.Pod) && (decide (x.Node = y.Node) && (decide (x.Address = y.Address) && ((x.Ready == y.Ready) && (x.Terminating == y.Terminating))))
theorem eqE_self (x : Endpoint) : eqE x x = true := by simp [eqE]
theorem eqE_comm (x y : Endpoint) : eqE x y = eqE y x := by
  unfold eqE
  rw [decide_eq_decide.2 (eq_comm (a := x.Pod)), decide_eq_decide.2 (eq_comm (a := x.Node)), decide_eq_decide.2 (eq_comm (a := x.Address))]
  cases x.Ready <;> cases y.Ready <;> cases x.Terminating <;> cases y.Terminating <;> rfl
def ez : Endpoint := ⟨⟨#[]⟩, ⟨#[]⟩, 0, false, false⟩
def pA (a : List Endpoint) (k : ByteArray) : Bool := !has a k
def pC (a b : List Endpoint) (k : ByteArray) : Bool := has a k && !eqE ((fst1 a k).getD ez) ((fst1 b k).getD ez)
theorem F14_l5_t (a b : List Endpoint) (ks : List ByteArray) : ∀ (n i : Nat) (o c : List ByteArray), ks.length = i + n → o.length + n ≤ 100000 → c.length + n ≤ 100000 → F14_l5 (idxF a []) (idxF b []) ks (ks.drop i) i o c = some (o ++ (ks.drop i).filter (pA a), c ++ (ks.drop i).filter (pC a b))
  | 0, i, o, c, h, _, _ => by rw [List.drop_of_length_le (by omega), F14_l5]; simp
  | n + 1, i, o, c, h, ho, hc => by
    have hlt : i < ks.length := by omega
    have IH := F14_l5_t a b ks n (i + 1)
    rw [List.drop_eq_getElem_cons hlt, F14_l5, rdI_at hlt]
    have g1 : getM ks[i] (idxF a []) = fst1 a ks[i] := by rw [idxF_get]; rfl
    have g2 : getM ks[i] (idxF b []) = fst1 b ks[i] := by rw [idxF_get]; rfl
    simp only [Option.bind_some, g1, g2, nb_not, List.filter_cons]
    show (((if (!has a ks[i]) = true then _ else _) : Option _).bind _) = _
    cases hh : has a ks[i]
    · have e1 : pA a ks[i] = true := by simp [pA, hh]
      have e2 : pC a b ks[i] = false := by simp [pC, hh]
      simp only [Bool.not_false, if_true, e1, e2, Bool.false_eq_true, if_false]
      rw [apI_t (by simp; omega), Option.bind_some, Option.bind_some, IH _ _ (by omega) (by simp; omega) (by dsimp only; omega)]
      simp
    · have e1 : pA a ks[i] = false := by simp [pA, hh]
      have e2 : pC a b ks[i] = !eqE ((fst1 a ks[i]).getD ez) ((fst1 b ks[i]).getD ez) := by simp [pC, hh]
      simp only [Bool.not_true, Bool.false_eq_true, if_false, e1, e2]
      show (((if (!eqE ((fst1 a ks[i]).getD ez) ((fst1 b ks[i]).getD ez)) = true then _ else _) : Option _).bind _) = _
      cases eqE ((fst1 a ks[i]).getD ez) ((fst1 b ks[i]).getD ez)
      · simp only [Bool.not_false, if_true]
        rw [apI_t (by simp; omega), Option.bind_some, Option.bind_some, IH _ _ (by omega) (by dsimp only; omega) (by simp; omega)]
        simp
      · simp only [Bool.not_true, Bool.false_eq_true, if_false, Option.bind_some]
        rw [IH _ _ (by omega) (by omega) (by omega)]
theorem F14_l16_t (b : List Endpoint) (ks : List ByteArray) : ∀ (n i : Nat) (o : List ByteArray), ks.length = i + n → o.length + n ≤ 100000 → F14_l16 ks (idxF b []) (ks.drop i) i o = some (o ++ (ks.drop i).filter (pA b))
  | 0, i, o, h, _ => by rw [List.drop_of_length_le (by omega), F14_l16]; simp
  | n + 1, i, o, h, ho => by
    have hlt : i < ks.length := by omega
    have IH := F14_l16_t b ks n (i + 1)
    rw [List.drop_eq_getElem_cons hlt, F14_l16, rdI_at hlt]
    have g2 : getM ks[i] (idxF b []) = fst1 b ks[i] := by rw [idxF_get]; rfl
    simp only [Option.bind_some, g2, nb_not, List.filter_cons]
    show (((if (!has b ks[i]) = true then _ else _) : Option _).bind _) = _
    cases hh : has b ks[i]
    · have e1 : pA b ks[i] = true := by simp [pA, hh]
      simp only [Bool.not_false, if_true, e1]
      rw [apI_t (by simp; omega), Option.bind_some, Option.bind_some, IH _ (by omega) (by simp; omega)]
      simp
    · have e1 : pA b ks[i] = false := by simp [pA, hh]
      simp only [Bool.not_true, Bool.false_eq_true, if_false, e1, Option.bind_some]
      rw [IH _ (by omega) (by omega)]
def smallE (l : List Endpoint) : Prop := l.length ≤ 1000 ∧ ∀ x ∈ l, x.Pod.size ≤ 4294967290
theorem keys_t {l : List Endpoint} (h : smallE l) : keysI ((idxF l []).map Prod.fst) = some (sortL ((idxF l []).map Prod.fst)) := by
  unfold keysI
  refine if_pos ⟨?_, fun k hk => ?_⟩
  · have := idxF_len l []; have := h.1; simp at *; omega
  · rw [idxF_keys] at hk
    unfold has fst1 at hk
    cases hf : l.find? (fun x => decide (x.Pod = k)) with
    | none => rw [hf] at hk; cases hk
    | some e =>
      have := List.find?_some hf
      simp only [decide_eq_true_eq] at this
      rw [← this]; exact h.2 e (List.mem_of_find?_eq_some hf)
def res (a b : List Endpoint) : List ByteArray × List ByteArray × List ByteArray := (S (pA a) b, S (pA b) a, S (pC a b) b)
theorem F14_t (x y : EndpointSet) (hx : smallE x.Items) (hy : smallE y.Items) : F14 x y = some (res x.Items y.Items) := by
  unfold F14
  have lx := idxF_len x.Items []
  have ly := idxF_len y.Items []
  have h1 := hx.1
  have h2 := hy.1
  simp only [List.length_nil, Nat.zero_add] at lx ly
  have kx : (sortL ((idxF x.Items []).map Prod.fst)).length ≤ 1000 := by rw [sortL_len, List.length_map]; omega
  have ky : (sortL ((idxF y.Items []).map Prod.fst)).length ≤ 1000 := by rw [sortL_len, List.length_map]; omega
  rw [F33_t x (by omega), Option.bind_some, F33_t y (by omega), Option.bind_some]
  simp only [F35, Option.bind_some]
  rw [keys_t hy, Option.bind_some, ck_t ⟨by omega, by omega⟩, Option.bind_some]
  have e5 := F14_l5_t x.Items y.Items (sortL ((idxF y.Items []).map Prod.fst)) _ 0 [] [] (Nat.zero_add _).symm (by simp; omega) (by simp; omega)
  rw [List.drop_zero] at e5
  rw [e5, Option.bind_some, keys_t hx, Option.bind_some, ck_t ⟨by omega, by omega⟩, Option.bind_some]
  have e6 := F14_l16_t y.Items (sortL ((idxF x.Items []).map Prod.fst)) _ 0 [] (Nat.zero_add _).symm (by simp; omega)
  rw [List.drop_zero] at e6
  rw [e6, Option.bind_some]
  simp only [List.nil_append, sorted_S]; rfl
theorem F36_l1_t (k : ByteArray) : ∀ (l : List Endpoint) (i : Nat), (fst1 l k = none → F36_l1 k l i = some (.inr ())) ∧ ∀ e, fst1 l k = some e → ∃ j : Nat, F36_l1 k l i = some (.inl ((i + j : Nat) : Int)) ∧ l[j]? = some e
  | [], i => ⟨fun _ => by rw [F36_l1], fun e h => by simp [fst1] at h⟩
  | x :: l, i => by
    rw [F36_l1]
    by_cases h : x.Pod = k
    · rw [if_pos h]
      refine ⟨fun hn => by simp [fst1, h] at hn, fun e he => ⟨0, rfl, ?_⟩⟩
      simpa [fst1, h] using he
    · rw [if_neg h]
      have e1 : fst1 (x :: l) k = fst1 l k := by simp [fst1, h]
      rw [e1]
      have IH := F36_l1_t k l (i + 1)
      refine ⟨IH.1, fun e he => ?_⟩
      obtain ⟨j, h1, h2⟩ := IH.2 e he
      exact ⟨j + 1, by rw [h1]; congr 3; omega, by simpa using h2⟩
theorem F36_n {l : List Endpoint} {k : ByteArray} (hl : l.length ≤ 1000) (h : fst1 l k = none) : F36 l k = some (-1) := by
  unfold F36
  rw [ck_t ⟨by omega, by omega⟩, Option.bind_some, (F36_l1_t k l 0).1 h]; rfl
theorem F36_s {l : List Endpoint} {k : ByteArray} (hl : l.length ≤ 1000) {e : Endpoint} (h : fst1 l k = some e) : ∃ j : Nat, F36 l k = some (j : Int) ∧ l[j]? = some e := by
  unfold F36
  obtain ⟨j, h1, h2⟩ := (F36_l1_t k l 0).2 e h
  rw [Nat.zero_add] at h1
  exact ⟨j, by rw [ck_t ⟨by omega, by omega⟩, Option.bind_some, h1]; rfl, h2⟩
theorem fst1_mem {l : List Endpoint} {x : Endpoint} (h : x ∈ l) : ∃ e, fst1 l x.Pod = some e := by
  unfold fst1
  cases hf : l.find? (fun y => decide (y.Pod = x.Pod)) with
  | some e => exact ⟨e, rfl⟩
  | none => have := List.find?_eq_none.1 hf x h; simp at this
theorem F15_l1_t (x y : EndpointSet) (hx : x.Items.length ≤ 1000) (hy : y.Items.length ≤ 1000) : ∀ (l : List Endpoint) (i : Nat) (o c : List ByteArray), (∀ e ∈ l, e ∈ y.Items) → o.length + l.length ≤ 100000 → c.length + l.length ≤ 100000 →
    F15_l1 x y l i o c = some (refF (pA x.Items) l o, refF (pC x.Items y.Items) l c)
  | [], i, o, c, _, _, _ => by rw [F15_l1]; rfl
  | e :: l, i, o, c, hm, ho, hc => by
    simp only [List.length_cons] at ho hc
    have IH := F15_l1_t x y hx hy l (i + 1)
    have hm' : ∀ z ∈ l, z ∈ y.Items := fun z hz => hm z (List.mem_cons_of_mem _ hz)
    obtain ⟨ey, hey⟩ := fst1_mem (hm e (List.mem_cons_self ..))
    rw [F15_l1, refF, refF]
    cases hf : fst1 x.Items e.Pod with
    | none =>
      have hh : has x.Items e.Pod = false := by simp [has, hf]
      rw [F36_n hx hf, Option.bind_some, if_pos (by decide), F37_t _ _ (by omega), Option.bind_some, Option.bind_some]
      have := insU_len e.Pod o
      rw [IH _ _ hm' (by dsimp only; omega) (by dsimp only; omega), if_pos (by simp [pA, hh]), if_neg (by simp [pC, hh])]
    | some ex =>
      have hh : has x.Items e.Pod = true := by simp [has, hf]
      obtain ⟨j, h1, h2⟩ := F36_s hx hf
      obtain ⟨j2, h3, h4⟩ := F36_s hy hey
      rw [h1, Option.bind_some, if_neg (by omega), rdI_nat, h2, Option.bind_some, h3, Option.bind_some, rdI_nat, h4, Option.bind_some, if_neg (show ¬ pA x.Items e.Pod = true by simp [pA, hh])]
      have e2 : pC x.Items y.Items e.Pod = !eqE ex ey := by simp [pC, hh, hf, hey]
      rw [e2, nb_not]
      show (((if (!eqE ex ey) = true then _ else _) : Option _).bind _) = _
      cases eqE ex ey
      · simp only [Bool.not_false, if_true]
        rw [F37_t _ _ (by omega), Option.bind_some, Option.bind_some]
        have := insU_len e.Pod c
        rw [IH _ _ hm' (by dsimp only; omega) (by dsimp only; omega)]
      · simp only [Bool.not_true, Bool.false_eq_true, if_false, Option.bind_some]
        rw [IH _ _ hm' (by omega) (by omega)]
theorem F15_l13_t (y : EndpointSet) (hy : y.Items.length ≤ 1000) : ∀ (l : List Endpoint) (i : Nat) (o : List ByteArray), o.length + l.length ≤ 100000 → F15_l13 y l i o = some (refF (pA y.Items) l o)
  | [], i, o, _ => by rw [F15_l13]; rfl
  | e :: l, i, o, ho => by
    simp only [List.length_cons] at ho
    have IH := F15_l13_t y hy l (i + 1)
    rw [F15_l13, refF]
    cases hf : fst1 y.Items e.Pod with
    | none =>
      have hh : has y.Items e.Pod = false := by simp [has, hf]
      rw [F36_n hy hf, Option.bind_some, if_pos (by decide), F37_t _ _ (by omega), Option.bind_some, Option.bind_some]
      have := insU_len e.Pod o
      rw [IH _ (by omega), if_pos (by simp [pA, hh])]
    | some ex =>
      have hh : has y.Items e.Pod = true := by simp [has, hf]
      obtain ⟨j, h1, h2⟩ := F36_s hy hf
      rw [h1, Option.bind_some, if_neg (by omega), Option.bind_some, IH _ (by omega), if_neg (by simp [pA, hh])]
theorem F15_t (x y : EndpointSet) (hx : x.Items.length ≤ 1000) (hy : y.Items.length ≤ 1000) : F15 x y = some (res x.Items y.Items) := by
  unfold F15
  rw [ck_t ⟨by omega, by omega⟩, Option.bind_some, F15_l1_t x y hx hy _ 0 [] [] (fun _ h => h) (by simp; omega) (by simp; omega), Option.bind_some, ck_t ⟨by omega, by omega⟩, Option.bind_some, F15_l13_t y hy _ 0 [] (by simp; omega)]
  rfl
theorem F16_l2_t (a : List ByteArray) : ∀ (n i : Nat), a.length = i + n → F16_l2 a (a.drop i) i = some (.inr ())
  | 0, i, h => by rw [List.drop_of_length_le (by omega), F16_l2]
  | n + 1, i, h => by
    have hlt : i < a.length := by omega
    rw [List.drop_eq_getElem_cons hlt, F16_l2, rdI_at hlt, Option.bind_some, if_neg (by simp), F16_l2_t a n (i + 1) (by omega)]
theorem F16_t {a : List ByteArray} (h : a.length ≤ 1000) : F16 a a = some true := by
  unfold F16
  have := F16_l2_t a a.length 0 (by simp)
  rw [List.drop_zero] at this
  rw [if_neg (by simp), ck_t ⟨by omega, by omega⟩, Option.bind_some, this]; rfl
theorem mem_w {α : Type} (w : α → Nat) : ∀ {l : List α} {y : α}, y ∈ l → w y ≤ (l.map w).sum
  | x :: l, y, h => by
    rcases List.mem_cons.1 h with rfl | h
    · simp
    · have := mem_w w h; simp; omega
theorem small_of {l : List Endpoint} (hl : l.length ≤ 40) (hw : (wL wEndpoint) l ≤ 1048576) : smallE l := by
  refine ⟨by omega, fun x hx => ?_⟩
  have h1 := mem_w wEndpoint hx
  have h2 : x.Pod.size ≤ wEndpoint x := by simp [wEndpoint, wS]; omega
  unfold wL at hw
  omega
theorem EndpointsDiffs_pure : EndpointsDiffs.Pure := by
  intro a b _ _ hw
  unfold F4
  by_cases h1 : (40 : Int) < a.length
  · rw [if_pos h1]; simp [F9_t]
  by_cases h2 : (40 : Int) < b.length
  · rw [if_neg h1]; simp [F9_t, h2]
  have sa : smallE a := small_of (by omega) (by omega)
  have sb : smallE b := small_of (by omega) (by omega)
  rw [if_neg h1]
  simp only [h2, decide_false, Option.bind_some, Bool.false_eq_true, if_false]
  have f1 : ∀ (m n : Meta), F14 ⟨m, [], a⟩ ⟨n, [], b⟩ = some (S (pA a) b, S (pA b) a, S (pC a b) b) := fun m n => F14_t _ _ sa sb
  have f2 : ∀ (m n : Meta), F15 ⟨m, [], a⟩ ⟨n, [], b⟩ = some (S (pA a) b, S (pA b) a, S (pC a b) b) := fun m n => F15_t _ _ sa.1 sb.1
  have f3 : ∀ (m n : Meta), F14 ⟨m, [], b⟩ ⟨n, [], a⟩ = some (S (pA b) a, S (pA a) b, S (pC b a) a) := fun m n => F14_t _ _ sb sa
  have f4 : ∀ (m n : Meta), F14 ⟨m, [], a⟩ ⟨n, [], a⟩ = some (S (pA a) a, S (pA a) a, S (pC a a) a) := fun m n => F14_t _ _ sa sa
  rw [f1, Option.bind_some, f2, Option.bind_some, f3, Option.bind_some]
  have q1 : (S (pA a) b).length ≤ 1000 := by have := S_len (pA a) b; have := sb.1; omega
  have q2 : (S (pA b) a).length ≤ 1000 := by have := S_len (pA b) a; have := sa.1; omega
  have q3 : (S (pC a b) b).length ≤ 1000 := by have := S_len (pC a b) b; have := sb.1; omega
  have e3 : S (pC b a) a = S (pC a b) b := S_eq fun z => by
    unfold pC
    rw [eqE_comm]
    cases has a z <;> cases has b z <;> simp
  have e4 : S (pA a) a = [] := by
    apply List.eq_nil_iff_forall_not_mem.2
    intro z hz
    rw [S_mem] at hz
    simp [pA] at hz
  have e5 : S (pC a a) a = [] := by
    apply List.eq_nil_iff_forall_not_mem.2
    intro z hz
    rw [S_mem] at hz
    simp [pC, eqE_self] at hz
  rw [e4, e5] at f4
  rw [f4, Option.bind_some]
  simp only [F16_t q1, F16_t q2, F16_t q3, e3, Option.bind_some, if_true, F9_t]
  rfl
end Go.Proofs.Ytfkkccgopmcnaaa
