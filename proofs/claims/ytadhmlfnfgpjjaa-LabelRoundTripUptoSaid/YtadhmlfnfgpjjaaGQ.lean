/- The plain law. -/
import Derived.Test.YtadhmlfnfgpjjaaGP
import Derived.Test.YtadhmlfnfgpjjaaFP
import Derived.KernelRfl
set_option linter.unusedVariables false
set_option linter.unusedSimpArgs false
namespace Go.Proofs.Ytadhmlfnfgpjjaa
open Go Go.Fw
set_option maxRecDepth 1000000

theorem F12_t : F12 = some true := by kernel_rfl

set_option maxRecDepth 100000

def wbN (n : Int) : Bool := decide (97 ≤ n) && decide (n ≤ 122) || decide (48 ≤ n) && decide (n ≤ 57) || decide (n = 45) || decide (n = 46) || decide (n = 47)
def wb (c : UInt8) : Bool := wbN (c.toNat : Int)
theorem F51_t (n : Int) : F51 n = some (wbN n) := by
  unfold F51 wbN
  by_cases h1 : 97 ≤ n <;> by_cases h2 : n ≤ 122 <;> by_cases h3 : 48 ≤ n <;> by_cases h4 : n ≤ 57 <;> by_cases h5 : n = 45 <;> by_cases h6 : n = 46 <;> simp [*]
theorem byI_at {b : ByteArray} {i : Nat} (h : i < (bl b).length) : byI b (i : Int) = some ((bl b)[i].toNat : Int) := by
  have hs : i < b.size := h
  unfold byI
  rw [if_pos (by omega)]
  simp [hs, bl, ByteArray.getElem_eq_getElem_data]
theorem size_bl (b : ByteArray) : b.size = (bl b).length := rfl

def keyL (l : List UInt8) : Bool := decide (1 ≤ l.length) && decide (l.length ≤ 40) && (match l with | [] => false | c :: _ => decide (97 ≤ c.toNat) && decide (c.toNat ≤ 122)) && l.all wb
def keyB (s : ByteArray) : Bool := keyL (bl s)
def valc (c : UInt8) : Bool := wb c && !decide (c.toNat = 47)
def valL (l : List UInt8) : Bool := decide (l.length ≤ 40) && l.all valc
def valB (s : ByteArray) : Bool := valL (bl s)

theorem F29_l8_t (s : ByteArray) (hs : (bl s).length ≤ 40) : ∀ (n i k : Nat), (bl s).length = i + n → n < k → F29_l8 s k (i : Int) = some (if ((bl s).drop i).all wb = true then .inr () else .inl false)
  | 0, i, k + 1, hl, _ => by
    rw [F29_l8, if_neg (by rw [size_bl]; omega), List.drop_of_length_le (by omega)]; rfl
  | n + 1, i, k + 1, hl, hk => by
    rw [F29_l8, if_pos (by rw [size_bl]; omega), byI_at (by omega), List.drop_eq_getElem_cons (by omega), List.all_cons]
    simp only [Option.bind_some, F51_t]
    have e1 : IntKind.i64.wrap ((i : Int) + 1) = ((i + 1 : Nat) : Int) := wrapN (by omega)
    rw [e1, F29_l8_t s hs n (i + 1) k (by omega) (by omega)]
    show (if nb (wb (bl s)[i]) = true then _ else _) = _
    cases hw : wb (bl s)[i] <;> simp [nb_not]
theorem F29_t (s : ByteArray) : F29 s = some (keyB s) := by
  unfold F29 keyB keyL
  by_cases h0 : s = ⟨#[]⟩
  · subst h0; rfl
  rw [if_neg h0]
  have hne : bl s ≠ [] := fun e => h0 (by rw [← lb_bl s, e]; rfl)
  by_cases h1 : 40 < (s.size : Int)
  · rw [if_pos h1]
    have : ¬ (bl s).length ≤ 40 := by rw [size_bl] at h1; omega
    simp [this]
  rw [if_neg h1]
  rw [size_bl] at h1
  match hb : bl s with
  | [] => exact (hne hb).elim
  | c :: r =>
    have hl : (bl s).length = r.length + 1 := by rw [hb]; rfl
    have hc : byI s 0 = some (c.toNat : Int) := by
      have := byI_at (b := s) (i := 0) (by omega)
      rw [show ((0 : Nat) : Int) = 0 from rfl] at this
      rw [this]; simp [hb]
    rw [hc]
    have h8 := F29_l8_t s (by omega) (bl s).length 0 1099511627776 (by omega) (by omega)
    rw [show ((0 : Nat) : Int) = 0 from rfl, List.drop_zero, hb] at h8
    simp only [Option.bind_some, h8]
    have hr : r.length ≤ 39 := by omega
    by_cases g1 : (c.toNat : Int) < 97
    · have : ¬ 97 ≤ c.toNat := by omega
      simp [g1, this]
    · have a1 : 97 ≤ c.toNat := by omega
      by_cases g2 : 122 < (c.toNat : Int)
      · have : ¬ c.toNat ≤ 122 := by omega
        simp [g1, g2, this]
      · have a2 : c.toNat ≤ 122 := by omega
        simp only [g1, g2, if_false, Option.bind_some, decide_false, Bool.false_eq_true, List.length_cons]
        cases hw : (c :: r).all wb <;> simp [a1, a2, hr]
theorem F30_l2_t (s : ByteArray) (hs : (bl s).length ≤ 40) : ∀ (n i k : Nat), (bl s).length = i + n → n < k → F30_l2 s k (i : Int) = some (if ((bl s).drop i).all valc = true then .inr () else .inl false)
  | 0, i, k + 1, hl, _ => by
    rw [F30_l2, if_neg (by rw [size_bl]; omega), List.drop_of_length_le (by omega)]; rfl
  | n + 1, i, k + 1, hl, hk => by
    rw [F30_l2, if_pos (by rw [size_bl]; omega), byI_at (by omega), List.drop_eq_getElem_cons (by omega), List.all_cons]
    simp only [Option.bind_some, F51_t]
    have e1 : IntKind.i64.wrap ((i : Int) + 1) = ((i + 1 : Nat) : Int) := wrapN (by omega)
    rw [e1, F30_l2_t s hs n (i + 1) k (by omega) (by omega)]
    show ((if nb (wb (bl s)[i]) = true then some true else some (decide (((bl s)[i].toNat : Int) = 47))).bind _) = _
    rw [show valc (bl s)[i] = (wb (bl s)[i] && !decide ((bl s)[i].toNat = 47)) from rfl]
    have e2 : (((bl s)[i].toNat : Int) = 47) ↔ ((bl s)[i].toNat = 47) := by omega
    cases hw : wb (bl s)[i] <;> by_cases h47 : (bl s)[i].toNat = 47 <;> simp [nb_not, e2, h47]
theorem F30_t (s : ByteArray) : F30 s = some (valB s) := by
  unfold F30 valB valL
  by_cases h1 : 40 < (s.size : Int)
  · rw [if_pos h1]
    have : ¬ (bl s).length ≤ 40 := by rw [size_bl] at h1; omega
    simp [this]
  rw [if_neg h1]
  rw [size_bl] at h1
  have h8 := F30_l2_t s (by omega) (bl s).length 0 1099511627776 (by omega) (by omega)
  rw [show ((0 : Nat) : Int) = 0 from rfl, List.drop_zero] at h8
  rw [h8]
  have a : (bl s).length ≤ 40 := by omega
  cases hw : (bl s).all valc <;> simp [a]
open Go Go.Fw
set_option maxRecDepth 100000

def lbS (x : Label) : Bool := decide (x.Key.size ≤ 100) && decide (x.Value.size ≤ 100)
def rqS (x : Requirement) : Bool := decide (x.Key.size ≤ 100) && decide (x.Values.length ≤ 100) && x.Values.all fun v => decide (v.size ≤ 100)
theorem F11_l4_t : ∀ (l : List Label) (i : Nat), F11_l4 l i = some (if l.all lbS = true then .inr () else .inl false)
  | [], i => rfl
  | x :: l, i => by
    rw [F11_l4, F11_l4_t l (i + 1), List.all_cons]
    by_cases h1 : x.Key.size ≤ 100 <;> by_cases h2 : x.Value.size ≤ 100
    all_goals
      have e1 : (100 < (x.Key.size : Int)) ↔ ¬ x.Key.size ≤ 100 := by omega
      have e2 : (100 < (x.Value.size : Int)) ↔ ¬ x.Value.size ≤ 100 := by omega
      simp only [e1, e2, h1, h2, lbS, not_true_eq_false, not_false_eq_true, if_true, if_false, Option.bind_some, decide_true, decide_false, Bool.and_true, Bool.true_and, Bool.and_false, Bool.false_and, Bool.false_eq_true, Option.map_some]
theorem F11_l15_t : ∀ (l : List ByteArray) (i : Nat), F11_l15 l i = some (if (l.all fun v => decide (v.size ≤ 100)) = true then .inr () else .inl (.inl false))
  | [], i => rfl
  | x :: l, i => by
    rw [F11_l15, F11_l15_t l (i + 1), List.all_cons]
    have e1 : (100 < (x.size : Int)) ↔ ¬ x.size ≤ 100 := by omega
    by_cases h1 : x.size ≤ 100 <;> simp [e1, h1]
theorem F11_l10_t : ∀ (l : List Requirement) (i : Nat), F11_l10 l i = some (if l.all rqS = true then .inr () else .inl false)
  | [], i => rfl
  | x :: l, i => by
    rw [F11_l10, F11_l10_t l (i + 1), List.all_cons]
    have e1 : (100 < (x.Key.size : Int)) ↔ ¬ x.Key.size ≤ 100 := by omega
    have e2 : (100 < (x.Values.length : Int)) ↔ ¬ x.Values.length ≤ 100 := by omega
    by_cases h1 : x.Key.size ≤ 100
    · by_cases h2 : x.Values.length ≤ 100
      · rw [if_neg (fun h => e1.1 h h1)]
        rw [ck_t (by omega)]
        simp only [Option.bind_some, F11_l15_t, e2, h2, not_true_eq_false, decide_false, Bool.false_eq_true, if_false, rqS, h1, decide_true, Bool.true_and]
        cases hv : x.Values.all fun v => decide (v.size ≤ 100) <;> simp [hv]
      · simp [e1, e2, h1, h2, rqS]
    · simp [e1, h1, rqS]
def small (l : List Label) (s : List Requirement) : Bool := decide (l.length ≤ 40) && decide (s.length ≤ 40) && (l.all lbS && s.all rqS)
theorem F11_t (l : List Label) (s : List Requirement) : F11 l s = some (small l s) := by
  unfold F11 small
  have e1 : (40 < (l.length : Int)) ↔ ¬ l.length ≤ 40 := by omega
  have e2 : (40 < (s.length : Int)) ↔ ¬ s.length ≤ 40 := by omega
  by_cases h1 : l.length ≤ 40
  · by_cases h2 : s.length ≤ 40
    · rw [if_neg (fun h => e1.1 h h1), ck_t (by omega), ck_t (by omega)]
      simp only [Option.bind_some, F11_l4_t, F11_l10_t, e2, h2, not_true_eq_false, decide_false, Bool.false_eq_true, if_false, h1, decide_true, Bool.true_and]
      cases hv : l.all lbS <;> cases hw : s.all rqS <;> simp
    · simp [e1, e2, h1, h2]
  · simp [e1, h1]

def adj {α : Type} (f : α → ByteArray) (p : α → Bool) : Option ByteArray → List α → Bool
  | _, [] => true
  | q, x :: r => p x && (match q with | none => true | some y => decide (lt y (f x))) && adj f p (some (f x)) r
def prev {α : Type} (f : α → ByteArray) (l : List α) : Nat → Option ByteArray
  | 0 => none
  | n + 1 => (l[n]?).map f
theorem F35_l11_t (r : Requirement) (hs : r.Values.length ≤ 64) : ∀ (n i : Nat), r.Values.length = i + n → F35_l11 r (r.Values.drop i) i = some (if adj id valB (prev id r.Values i) (r.Values.drop i) = true then .inr () else .inl false)
  | 0, i, hl => by
    rw [List.drop_of_length_le (by omega)]; rfl
  | n + 1, i, hl => by
    rw [List.drop_eq_getElem_cons (by omega), F35_l11, F35_l11_t r hs n (i + 1) (by omega)]
    have hp : prev id r.Values (i + 1) = some r.Values[i] := by simp [prev, List.getElem?_eq_getElem (show i < r.Values.length by omega)]
    rw [hp]
    simp only [F30_t, Option.bind_some, adj, nb_not, id]
    cases i with
    | zero => by_cases hv : valB r.Values[0] = true <;> simp [prev, hv]
    | succ i =>
      have e2 : IntKind.i64.wrap (((i + 1 : Nat) : Int) - 1) = (i : Int) := by rw [wrapI (by omega) (by omega)]; omega
      have hp2 : prev id r.Values (i + 1) = some r.Values[i] := by simp [prev, List.getElem?_eq_getElem (show i < r.Values.length by omega)]
      have h0 : 0 < ((i + 1 : Nat) : Int) := by omega
      simp only [e2, rdI_at (show i < r.Values.length by omega), hp2, h0, if_true, Option.bind_some, bl_le]
      by_cases hv : valB r.Values[i + 1] = true <;> by_cases hlt : lt r.Values[i] r.Values[i + 1] <;> simp [hlt, hv]
def validR (r : Requirement) : Bool :=
  keyB r.Key && (if r.Op = 3 ∨ r.Op = 4 then decide (r.Values.length = 0) else decide (r.Op = 1 ∨ r.Op = 2) && (decide (1 ≤ r.Values.length) && decide (r.Values.length ≤ 64) && adj id valB none r.Values))
theorem vals_t (r : Requirement) : ((if (r.Values.length : Int) < 1 then some true else some (decide (64 < (r.Values.length : Int)))).bind fun o8 => (if o8 = true then some false else (((ck (0 ≤ r.Values.length ∧ r.Values.length ≤ 4294967290)).bind fun u19 => F35_l11 r r.Values 0).bind fun o11 => match o11 with | Sum.inl f => some f | Sum.inr po11 => some true) : Option Bool)) = some (decide (1 ≤ r.Values.length) && decide (r.Values.length ≤ 64) && adj id valB none r.Values) := by
  have e1 : ((r.Values.length : Int) < 1) ↔ ¬ 1 ≤ r.Values.length := by omega
  have e2 : (64 < (r.Values.length : Int)) ↔ ¬ r.Values.length ≤ 64 := by omega
  by_cases h1 : 1 ≤ r.Values.length
  · by_cases h2 : r.Values.length ≤ 64
    · have := F35_l11_t r h2 r.Values.length 0 (by omega)
      rw [List.drop_zero] at this
      rw [if_neg (fun h => e1.1 h h1), ck_t (by omega), Option.bind_some, Option.bind_some, this]
      simp only [h1, h2, e2, decide_true, Bool.true_and, not_true_eq_false, decide_false, Bool.false_eq_true, if_false]
      show _ = some (adj id valB (prev id r.Values 0) r.Values)
      cases adj id valB (prev id r.Values 0) r.Values <;> rfl
    · simp [e1, e2, h1, h2]
  · simp [e1, h1]
theorem F35_t (r : Requirement) : F35 r = some (validR r) := by
  unfold F35 validR
  simp only [F29_t, Option.bind_some, nb_not]
  cases hk : keyB r.Key
  · rfl
  simp only [Bool.not_true, Bool.false_eq_true, if_false, Bool.true_and]
  unfold F54
  by_cases h3 : r.Op = 3
  · simp [h3]
  by_cases h4 : r.Op = 4
  · simp [h4]
  by_cases h1 : r.Op = 1
  · simp only [h1, if_true, Option.bind_some, Bool.not_true, Bool.false_eq_true, if_false]
    refine (vals_t r).trans ?_; simp
  by_cases h2 : r.Op = 2
  · simp only [h2, decide_true, if_true, Option.bind_some, Bool.not_true, Bool.false_eq_true, if_false, show ¬ ((2 : Int) = 1) from by omega]
    refine (vals_t r).trans ?_; simp
  simp [h1, h2, h3, h4]
theorem F53_l1_t : ∀ (l : List Requirement) (i : Nat), ∃ r, F53_l1 l i = some r ∧ (l.all validR = true → r = .inr ()) ∧ (l.all validR = false → ∃ j : Nat, r = .inl (j : Int))
  | [], i => ⟨_, rfl, fun _ => rfl, fun h => by simp at h⟩
  | x :: l, i => by
    rw [F53_l1, List.all_cons]
    unfold F34
    simp only [F35_t, Option.bind_some, nb_not]
    cases hv : validR x
    · exact ⟨_, rfl, fun h => by simp at h, fun _ => ⟨i, rfl⟩⟩
    · simpa using F53_l1_t l (i + 1)
def validS (s : List Requirement) : Bool := decide (s.length ≤ 16) && s.all validR
theorem F15_t (s : List Requirement) : F15 s = some (validS s) := by
  unfold F15 validS
  by_cases h : s.length ≤ 16
  · have e : (s.length : Int) ≤ 16 := by omega
    rw [if_pos e]
    unfold F33 F53
    obtain ⟨r, h1, h2, h3⟩ := F53_l1_t s 0
    rw [ck_t (by omega), Option.bind_some, h1]
    cases hv : s.all validR
    · obtain ⟨j, rfl⟩ := h3 hv
      simp [h, nb_not]
    · rw [h2 hv]
      simp [h, nb_not]
  · have e : ¬ (s.length : Int) ≤ 16 := by omega
    simp [e, h]
def getL (l : List Label) (k : ByteArray) : ByteArray × Bool := match l.find? fun x => decide (x.Key = k) with | some x => (x.Value, true) | none => (⟨#[]⟩, false)
theorem F17_l1_t (k : ByteArray) : ∀ (l : List Label) (i : Nat), F17_l1 k l i = some (match l.find? fun x => decide (x.Key = k) with | some x => .inl (x.Value, true) | none => .inr ())
  | [], i => rfl
  | x :: l, i => by
    rw [F17_l1, F17_l1_t k l, List.find?_cons]
    by_cases h : x.Key = k <;> simp [h]
theorem F17_t (l : List Label) (k : ByteArray) (h : l.length ≤ 4294967290) : F17 l k = some (getL l k) := by
  unfold F17 getL
  rw [ck_t (by omega), Option.bind_some, F17_l1_t]
  cases l.find? fun x => decide (x.Key = k) <;> rfl
theorem F71_l1_t (v : ByteArray) : ∀ (l : List ByteArray) (i : Nat), ∃ r, F71_l1 v l i = some r ∧ (l.any (fun x => decide (x = v)) = false → r = .inr ()) ∧ (l.any (fun x => decide (x = v)) = true → ∃ j : Nat, r = .inl (j : Int))
  | [], i => ⟨_, rfl, fun _ => rfl, fun h => by simp at h⟩
  | x :: l, i => by
    rw [F71_l1, List.any_cons]
    by_cases h : v = x
    · subst h
      rw [if_pos rfl]
      exact ⟨_, rfl, fun h => by simp at h, fun _ => ⟨i, rfl⟩⟩
    · rw [if_neg h]
      have : ¬ x = v := fun e => h e.symm
      simpa [this] using F71_l1_t v l (i + 1)
theorem F57_t (l : List ByteArray) (v : ByteArray) (h : l.length ≤ 4294967290) : F57 l v = some (l.any fun x => decide (x = v)) := by
  unfold F57 F71
  obtain ⟨r, h1, h2, h3⟩ := F71_l1_t v l 0
  rw [ck_t (by omega), Option.bind_some, h1]
  cases hv : l.any fun x => decide (x = v)
  · rw [h2 hv]; rfl
  · obtain ⟨j, rfl⟩ := h3 hv
    simp
def holdsR (r : Requirement) (l : List Label) : Bool :=
  if r.Op = 1 then (getL l r.Key).2 && r.Values.any (fun x => decide (x = (getL l r.Key).1))
  else if r.Op = 2 then !(getL l r.Key).2 || !r.Values.any (fun x => decide (x = (getL l r.Key).1))
  else if r.Op = 3 then (getL l r.Key).2 else if r.Op = 4 then !(getL l r.Key).2 else false
theorem F38_t (r : Requirement) (l : List Label) (hl : l.length ≤ 4294967290) (hr : r.Values.length ≤ 4294967290) : F38 r l = some (holdsR r l) := by
  unfold F38 holdsR
  simp only [F17_t l _ hl, Option.bind_some, F57_t _ _ hr, nb_not]
  by_cases h1 : r.Op = 1
  · simp only [h1, if_true]
    cases (getL l r.Key).2 <;> simp
  by_cases h2 : r.Op = 2
  · simp only [h2, show ¬ ((2 : Int) = 1) from by omega, if_false, if_true]
    cases (getL l r.Key).2 <;> simp
  simp only [h1, h2, if_false]
  split <;> (try split) <;> rfl
theorem F22_l1_t (l : List Label) (hl : l.length ≤ 4294967290) : ∀ (s : List Requirement) (i : Nat), (∀ r ∈ s, r.Values.length ≤ 4294967290) → F22_l1 l s i = some (if s.all (fun r => holdsR r l) = true then .inr () else .inl false)
  | [], i, _ => rfl
  | x :: s, i, h => by
    rw [F22_l1, F22_l1_t l hl s _ fun r hr => h r (List.mem_cons_of_mem _ hr), F38_t x l hl (h x (List.mem_cons_self ..)), List.all_cons]
    simp only [Option.bind_some, nb_not]
    cases holdsR x l <;> simp
def matL (s : List Requirement) (l : List Label) : Bool := s.all fun r => holdsR r l
theorem F22_t (s : List Requirement) (l : List Label) (hs : s.length ≤ 4294967290) (hl : l.length ≤ 4294967290) (hr : ∀ r ∈ s, r.Values.length ≤ 4294967290) : F22 s l = some (matL s l) := by
  unfold F22 matL
  rw [ck_t (by omega), Option.bind_some, F22_l1_t l hl s 0 hr]
  cases s.all fun r => holdsR r l <;> rfl
theorem small_l {l s} (h : small l s = true) : l.length ≤ 40 := by simp [small] at h; exact h.1.1
theorem small_s {l s} (h : small l s = true) : s.length ≤ 40 := by simp [small] at h; exact h.1.2
theorem small_v {l s} (h : small l s = true) {r : Requirement} (hr : r ∈ s) : r.Key.size ≤ 100 ∧ r.Values.length ≤ 100 ∧ ∀ v ∈ r.Values, v.size ≤ 100 := by
  simp only [small, Bool.and_eq_true, List.all_eq_true] at h
  have := h.2.2 r hr
  simp only [rqS, Bool.and_eq_true, List.all_eq_true, decide_eq_true_eq] at this
  exact ⟨this.1.1, this.1.2, this.2⟩
open Go Go.Fw
set_option maxRecDepth 100000

theorem adj_iff {α : Type} (f : α → ByteArray) (p : α → Bool) : ∀ (l : List α) (q : Option ByteArray), adj f p q l = true ↔ (∀ x ∈ l, p x = true) ∧ l.Pairwise (fun x y => lt (f x) (f y)) ∧ ∀ y, q = some y → ∀ x ∈ l, lt y (f x)
  | [], q => by simp [adj]
  | x :: l, q => by
    have e : adj f p q (x :: l) = ((p x && (match q with | none => true | some y => decide (lt y (f x)))) && adj f p (some (f x)) l) := by cases q <;> rfl
    rw [e, Bool.and_eq_true, Bool.and_eq_true, adj_iff f p l (some (f x)), List.pairwise_cons]
    constructor
    · rintro ⟨⟨h1, h2⟩, h3, h4, h5⟩
      refine ⟨fun z hz => (List.mem_cons.1 hz).elim (fun e => e ▸ h1) (h3 z), ⟨fun z hz => h5 _ rfl z hz, h4⟩, fun y hq z hz => ?_⟩
      subst hq
      have hxy : lt y (f x) := by simpa using h2
      rcases List.mem_cons.1 hz with e | hz
      · exact e ▸ hxy
      · exact lt_trans hxy (h5 _ rfl z hz)
    · rintro ⟨h1, ⟨h2, h3⟩, h4⟩
      refine ⟨⟨h1 x (List.mem_cons_self ..), ?_⟩, fun z hz => h1 z (List.mem_cons_of_mem _ hz), h3, fun y hy z hz => by cases hy; exact h2 z hz⟩
      cases q with
      | none => rfl
      | some y => simpa using h4 y rfl x (List.mem_cons_self ..)
open Go Go.Fw
set_option maxRecDepth 100000

theorem dropW_len (p : UInt8 → Bool) (r : List UInt8) : (r.dropWhile p).length ≤ r.length := (List.dropWhile_sublist p).length_le
def tok : List UInt8 → Option (List ByteArray)
  | [] => some []
  | c :: r =>
    if c = 32 then tok r
    else if wb c = true then (tok (r.dropWhile wb)).map (lb (c :: r.takeWhile wb) :: ·)
    else if c = 33 ∧ r.head? = some 61 then (tok r.tail).map (lb [33, 61] :: ·)
    else if c = 40 ∨ c = 41 ∨ c = 44 ∨ c = 33 ∨ c = 61 then (tok r).map (lb [c] :: ·) else none
  termination_by l => l.length
  decreasing_by
    · simp
    · have := dropW_len wb r; simp; omega
    · simp; omega
    · simp
theorem lb_app (a b : List UInt8) : lb (a ++ b) = lb a ++ lb b := by
  apply ByteArray.ext
  simp [lb]
theorem subI_t {s : ByteArray} {i n : Nat} (h : i + n ≤ (bl s).length) : subI s (i : Int) ((i + n : Nat) : Int) = some (lb (((bl s).drop i).take n)) := by
  unfold subI
  rw [if_pos ⟨by omega, by omega, by rw [size_bl]; omega⟩]
  congr 1
  rw [← lb_bl (s.extract _ _)]
  congr 1
  rw [show ((i + n : Nat) : Int).toNat = i + n from rfl, show ((i : Nat) : Int).toNat = i from rfl]
  simp [bl, ByteArray.data_extract, List.extract_eq_take_drop]
theorem F40_l8_t (s : ByteArray) (hs : (bl s).length ≤ 100000) (i : Nat) : ∀ (d n k : Nat), (bl s).length = i + n + d → d < k → F40_l8 (i : Int) s k (n : Int) = some ((n + (((bl s).drop (i + n)).takeWhile wb).length : Nat) : Int)
  | 0, n, k + 1, hl, _ => by
    rw [F40_l8, show ((i : Int) + (n : Int)) = ((i + n : Nat) : Int) by omega, wrapI (by omega) (by omega), if_neg (by rw [size_bl]; omega), List.drop_of_length_le (by omega)]
    rfl
  | d + 1, n, k + 1, hl, hk => by
    have hlt : i + n < (bl s).length := by omega
    rw [F40_l8, show ((i : Int) + (n : Int)) = ((i + n : Nat) : Int) by omega, wrapI (by omega) (by omega), if_pos (by rw [size_bl]; omega), byI_at hlt, List.drop_eq_getElem_cons hlt]
    simp only [Option.bind_some, F51_t]
    have e1 : IntKind.i64.wrap ((n : Int) + 1) = ((n + 1 : Nat) : Int) := wrapN (by omega)
    rw [e1, F40_l8_t s hs i d (n + 1) k (by omega) (by omega)]
    show (if wb (bl s)[i + n] = true then _ else _) = _
    rw [show i + (n + 1) = i + n + 1 from rfl]
    cases hw : wb (bl s)[i + n]
    · simp only [List.takeWhile_cons, hw, Bool.false_eq_true, if_false, List.length_nil, Nat.add_zero]
    · simp only [List.takeWhile_cons, hw, if_true, List.length_cons]; congr 2; omega
def mark (c : UInt8) : Bool := decide (c = 40) || decide (c = 41) || decide (c = 44) || decide (c = 33) || decide (c = 61)
theorem cont_all : ((List.range 128).all fun n => decide (contI ⟨#[40, 41, 44, 33, 61]⟩ (Utf8.encode (IntKind.i32.wrap (n : Int))) = some (mark (UInt8.ofNat n)))) = true := by kernel_rfl
theorem cont_t {c : UInt8} (h : c.toNat < 128) : contI ⟨#[40, 41, 44, 33, 61]⟩ (Utf8.encode (IntKind.i32.wrap (c.toNat : Int))) = some (mark c) := by
  have := List.all_eq_true.1 cont_all c.toNat (List.mem_range.2 h)
  simpa using this
theorem u8_nat {c : UInt8} {n : Nat} (hn : n < 256) : ((c.toNat : Int) = (n : Int)) ↔ c = UInt8.ofNat n := by
  constructor
  · intro h
    have : c.toNat = n := by omega
    rw [← this]; simp
  · intro h; subst h; simp [Nat.mod_eq_of_lt hn]
theorem u8_32 {c : UInt8} : ((c.toNat : Int) = 32) ↔ c = 32 := u8_nat (n := 32) (by decide)
theorem u8_33 {c : UInt8} : ((c.toNat : Int) = 33) ↔ c = 33 := u8_nat (n := 33) (by decide)
theorem u8_61 {c : UInt8} : ((c.toNat : Int) = 61) ↔ c = 61 := u8_nat (n := 61) (by decide)
theorem takeW_len (p : UInt8 → Bool) (r : List UInt8) : (r.takeWhile p).length ≤ r.length := (List.takeWhile_sublist p).length_le
theorem drop_takeW (p : UInt8 → Bool) : ∀ l : List UInt8, l.drop (l.takeWhile p).length = l.dropWhile p
  | [] => rfl
  | a :: r => by cases h : p a <;> simp [List.takeWhile_cons, List.dropWhile_cons, h, drop_takeW p r]
theorem take_takeW (p : UInt8 → Bool) : ∀ l : List UInt8, l.take (l.takeWhile p).length = l.takeWhile p
  | [] => rfl
  | a :: r => by cases h : p a <;> simp [List.takeWhile_cons, h, take_takeW p r]
def tokR (acc : List ByteArray) : Option (List ByteArray) → (((List ByteArray) × Bool) ⊕ (List ByteArray))
  | none => .inl ([], false)
  | some ts => .inr (acc ++ ts)
theorem tokR_map (acc : List ByteArray) (w : ByteArray) (o : Option (List ByteArray)) : tokR acc (o.map (w :: ·)) = tokR (acc ++ [w]) o := by cases o <;> simp [tokR]
theorem F40_l1_t (s : ByteArray) (hs : (bl s).length ≤ 100000) (ha : ∀ c ∈ bl s, c.toNat < 128) : ∀ (d i k : Nat) (acc : List ByteArray), (bl s).length ≤ i + d → i ≤ (bl s).length → d < k → acc.length + d ≤ 200000 → F40_l1 s k acc (i : Int) = some (tokR acc (tok ((bl s).drop i)))
  | d, i, k + 1, acc, hd, hi, hk, hacc => by
    rw [F40_l1]
    by_cases hlt : i < (bl s).length
    · obtain ⟨d, rfl⟩ : ∃ e, d = e + 1 := ⟨d - 1, by omega⟩
      have hda : (bl s).drop i = (bl s)[i] :: (bl s).drop (i + 1) := List.drop_eq_getElem_cons hlt
      have h128 := ha (bl s)[i] (List.getElem_mem hlt)
      have IH : ∀ n acc', 1 ≤ n → i + n ≤ (bl s).length → acc'.length ≤ acc.length + 1 → F40_l1 s k acc' ((i + n : Nat) : Int) = some (tokR acc' (tok ((bl s).drop (i + n)))) := fun n acc' h1 h2 h3 => F40_l1_t s hs ha d (i + n) k acc' (by omega) h2 (by omega) (by omega)
      have ap : ∀ w : ByteArray, apI acc [w] = some (acc ++ [w]) := fun w => apI_t (by simp; omega)
      have wr : ∀ n : Nat, i + n ≤ (bl s).length → IntKind.i64.wrap ((i : Int) + (n : Int)) = ((i + n : Nat) : Int) := fun n h => by rw [wrapI (by omega) (by omega)]; omega
      have w1 : IntKind.i64.wrap ((i : Int) + 1) = ((i + 1 : Nat) : Int) := wr 1 (by omega)
      rw [if_pos (by rw [size_bl]; omega), byI_at hlt, hda, tok]
      generalize hc : (bl s)[i] = c at *
      simp only [Option.bind_some, F51_t, u8_32, u8_33]
      by_cases h32 : c = 32
      · rw [if_pos h32, if_pos h32, w1, IH 1 acc (by omega) (by omega) (by omega)]
        rfl
      rw [if_neg h32, if_neg h32]
      show Option.bind (if wb c = true then _ else _) _ = _
      by_cases hwb : wb c = true
      · rw [if_pos hwb, if_pos hwb]
        have e8 := F40_l8_t s hs i ((bl s).length - i - 1) 1 1099511627776 (by omega) (by omega)
        rw [show ((1 : Nat) : Int) = 1 from rfl] at e8
        have hn := takeW_len wb ((bl s).drop (i + 1))
        rw [List.length_drop] at hn
        have et : (bl s).drop (i + (1 + (((bl s).drop (i + 1)).takeWhile wb).length)) = ((bl s).drop (i + 1)).dropWhile wb := by
          rw [← drop_takeW wb ((bl s).drop (i + 1)), List.drop_drop]; congr 1; omega
        have ew : ((bl s).drop i).take (1 + (((bl s).drop (i + 1)).takeWhile wb).length) = c :: ((bl s).drop (i + 1)).takeWhile wb := by
          rw [hda, Nat.add_comm, List.take_succ_cons, take_takeW]
        rw [e8]
        simp only [Option.bind_some]
        rw [wr _ (by omega), subI_t (by omega), ew]
        simp only [Option.bind_some, ap]
        rw [IH _ _ (by omega) (by omega) (by simp), et, tokR_map]
      rw [if_neg hwb, if_neg hwb]
      have one : ∀ o : Option Bool, o = some false → (o.bind fun o14 => (if o14 = true then some (Sum.inr 2) else (contI ((⟨#[40, 41, 44, 33, 61]⟩ : ByteArray)) ((Utf8.encode ((IntKind.i32.wrap (c.toNat : Int)))))).bind fun t19 => (if (nb t19) = true then ((some (([], false))).map Sum.inl).map Sum.inl else some (Sum.inr 1)) : Option ((((List ByteArray) × Bool) ⊕ ((List ByteArray))) ⊕ (Int)))) = some (if mark c = true then .inr 1 else .inl (.inl ([], false))) := by
        rintro _ rfl
        simp only [Option.bind_some, Bool.false_eq_true, if_false, cont_t h128]
        cases mark c <;> simp [nb_not]
      have hmark : (c = 40 ∨ c = 41 ∨ c = 44 ∨ c = 33 ∨ c = 61) ↔ mark c = true := by simp [mark, or_assoc]
      have fin : ((some (if mark c = true then Sum.inr 1 else Sum.inl (Sum.inl ([], false))) : Option ((((List ByteArray) × Bool) ⊕ ((List ByteArray))) ⊕ (Int))).bind fun o3 => match o3 with | Sum.inl f => some f | Sum.inr po3 => (subI s (i : Int) ((IntKind.i64.wrap ((i : Int) + po3)))).bind fun s21 => (apI acc ([s21])).bind fun a22 => F40_l1 s k a22 ((IntKind.i64.wrap ((i : Int) + po3)))) = some (tokR acc (if c = 40 ∨ c = 41 ∨ c = 44 ∨ c = 33 ∨ c = 61 then (tok ((bl s).drop (i + 1))).map (lb [c] :: ·) else none)) := by
        simp only [hmark]
        cases hm : mark c
        · rfl
        · simp only [if_true, Option.bind_some, w1]
          rw [subI_t (n := 1) (by omega), hda]
          simp only [Option.bind_some, ap, List.take_succ_cons, List.take_zero]
          rw [IH 1 _ (by omega) (by omega) (by simp), tokR_map]
      by_cases h33 : c = 33
      · by_cases h61 : ((bl s).drop (i + 1)).head? = some 61
        · have hl1 : i + 1 < (bl s).length := by
            rcases Nat.lt_or_ge (i + 1) (bl s).length with h | h
            · exact h
            · rw [List.drop_of_length_le h] at h61; cases h61
          have hg : (bl s)[i + 1] = 61 := by
            rw [List.drop_eq_getElem_cons hl1] at h61; simpa only [List.head?_cons, Option.some.injEq] using h61
          have hd1 : (bl s).drop (i + 1) = 61 :: (bl s).drop (i + 2) := by rw [List.drop_eq_getElem_cons hl1, hg]
          rw [if_pos h33, w1, if_pos (by rw [size_bl]; omega), byI_at hl1, hg, if_pos ⟨h33, h61⟩]
          simp only [Option.bind_some, u8_61, decide_true, if_true]
          rw [show ((2 : Int)) = ((2 : Nat) : Int) from rfl, wr 2 (by omega), subI_t (n := 2) (by omega), hda, hd1]
          simp only [Option.bind_some, ap, List.take_succ_cons, List.take_zero, List.tail_cons]
          rw [IH 2 _ (by omega) (by omega) (by simp), ← h33, tokR_map]
        · rw [if_pos h33, if_neg (show ¬ (c = 33 ∧ _) from fun h => h61 h.2)]
          have e0 : (if IntKind.i64.wrap ((i : Int) + 1) < (s.size : Int) then (byI s (IntKind.i64.wrap ((i : Int) + 1))).bind fun y17 => some (decide (y17 = 61)) else some false) = some false := by
            rw [w1]
            by_cases hl1 : i + 1 < (bl s).length
            · rw [if_pos (by rw [size_bl]; omega), byI_at hl1]
              rw [List.drop_eq_getElem_cons hl1] at h61
              have : ¬ (bl s)[i + 1] = 61 := by simpa only [List.head?_cons, Option.some.injEq] using h61
              simp [u8_61, this]
            · rw [if_neg (by rw [size_bl]; omega)]
          rw [one _ e0]; exact fin
      · rw [if_neg h33, if_neg (show ¬ (c = 33 ∧ _) from fun h => h33 h.1), one _ rfl]; exact fin
    · have : i = (bl s).length := by omega
      rw [if_neg (by rw [size_bl]; omega), List.drop_of_length_le (by omega), tok]
      simp [tokR]
def tokB (o : Option (List ByteArray)) : List ByteArray × Bool := match o with | none => ([], false) | some ts => (ts, true)
theorem F40_t (s : ByteArray) (hs : (bl s).length ≤ 100000) (ha : ∀ c ∈ bl s, c.toNat < 128) : F40 s = some (tokB (tok (bl s))) := by
  unfold F40
  have := F40_l1_t s hs ha (bl s).length 0 1099511627776 [] (by omega) (by omega) (by omega) (by simp; omega)
  rw [show ((0 : Nat) : Int) = 0 from rfl, List.drop_zero] at this
  rw [this]
  cases tok (bl s) <;> rfl
open Go Go.Fw
set_option maxRecDepth 100000

theorem tok_len : ∀ (n : Nat) (l : List UInt8), l.length ≤ n → ∀ ts, tok l = some ts → ts.length ≤ l.length
  | n, [], _, ts, h => by rw [tok] at h; cases h; simp
  | n + 1, c :: r, hn, ts, h => by
    simp only [List.length_cons] at hn
    rw [tok] at h
    split at h
    · have := tok_len n r (by omega) ts h; simp; omega
    split at h
    · obtain ⟨t2, h2, rfl⟩ := Option.map_eq_some_iff.1 h
      have := dropW_len wb r
      have := tok_len n (r.dropWhile wb) (by omega) t2 h2; simp; omega
    split at h
    · obtain ⟨t2, h2, rfl⟩ := Option.map_eq_some_iff.1 h
      have := tok_len n r.tail (by simp; omega) t2 h2; simp at this ⊢; omega
    split at h
    · obtain ⟨t2, h2, rfl⟩ := Option.map_eq_some_iff.1 h
      have := tok_len n r (by omega) t2 h2; simp; omega
    · cases h
def acc (x : ByteArray) : List ByteArray → List ByteArray × Bool
  | [] => ([], false)
  | t :: r => if t = x then (r, true) else (t :: r, false)
theorem acc_len (x : ByteArray) : ∀ ts, (acc x ts).1.length ≤ ts.length
  | [] => Nat.le_refl _
  | t :: r => by simp only [acc]; split <;> simp
theorem sl1 {α : Type} (t : α) (r : List α) : slI (t :: r) 1 (((t :: r).length : Nat) : Int) = some r := by
  rw [show (1 : Int) = ((1 : Nat) : Int) from rfl, slI_t (by simp) (Nat.le_refl _)]; simp
theorem F41_t (x : ByteArray) (b : Parser) : F41 x b = some (acc x b.tokens) := by
  unfold F41
  obtain ⟨ts, f⟩ := b
  cases ts with
  | nil => simp [acc]
  | cons t r =>
    rw [if_neg (by simp; omega)]
    simp only [show rdI (t :: r) 0 = some t from rfl, Option.bind_some, sl1, acc]
    by_cases h : t = x <;> simp [h]
def isW (t : ByteArray) : Bool := match bl t with | [] => false | c :: _ => wb c
def wordP : List ByteArray → List ByteArray × ByteArray
  | [] => ([], ⟨#[]⟩)
  | t :: r => if isW t = true then (r, t) else (t :: r, ⟨#[]⟩)
theorem wordP_len : ∀ ts, (wordP ts).1.length ≤ ts.length
  | [] => Nat.le_refl _
  | t :: r => by simp only [wordP]; split <;> simp
theorem emp_iff (t : ByteArray) : t = ⟨#[]⟩ ↔ bl t = [] := ⟨fun h => by rw [h]; rfl, fun h => by rw [← lb_bl t, h]; rfl⟩
theorem byI0 {t : ByteArray} {c : UInt8} {r : List UInt8} (h : bl t = c :: r) : byI t 0 = some (c.toNat : Int) := by
  have := byI_at (b := t) (i := 0) (by rw [h]; simp)
  rw [show ((0 : Nat) : Int) = 0 from rfl] at this
  rw [this]; simp [h]
theorem F60_t (b : Parser) : F60 b = some (wordP b.tokens) := by
  unfold F60 F73
  obtain ⟨ts, f⟩ := b
  cases ts with
  | nil => rfl
  | cons t r =>
    rw [if_neg (by simp; omega)]
    simp only [show rdI (t :: r) 0 = some t from rfl, Option.bind_some, sl1, wordP, F51_t]
    by_cases h : t = ⟨#[]⟩
    · have : isW t = false := by unfold isW; rw [(emp_iff t).1 h]
      simp [h]
      rw [h] at this
      simp [this]
    · rw [if_neg h]
      cases hb : bl t with
      | nil => exact (h ((emp_iff t).2 hb)).elim
      | cons c l =>
        have : isW t = wb c := by unfold isW; rw [hb]
        rw [byI0 hb, this]
        simp only [Option.bind_some]
        show (if nb (wb c) = true then _ else _) = _
        cases wb c <;> simp [nb_not]
def lsP (ts out : List ByteArray) : List ByteArray × List ByteArray :=
  match ts with
  | [] => ([], out)
  | t :: r => if t = ⟨#[44]⟩ then lsP (wordP r).1 (out ++ [(wordP r).2]) else (t :: r, out)
  termination_by ts.length
  decreasing_by have := wordP_len r; simp; omega
theorem lsP_len : ∀ (n : Nat) (ts out : List ByteArray), ts.length ≤ n → (lsP ts out).1.length ≤ ts.length ∧ (lsP ts out).2.length ≤ out.length + ts.length
  | n, [], out, _ => by rw [lsP]; simp
  | n + 1, t :: r, out, h => by
    rw [lsP]
    simp only [List.length_cons] at h
    split
    · have h1 := wordP_len r
      have := lsP_len n (wordP r).1 (out ++ [(wordP r).2]) (by omega)
      simp at this ⊢; omega
    · simp
theorem F61_l4_t (f : Bool) : ∀ (n k : Nat) (ts out : List ByteArray), ts.length ≤ n → n < k → out.length + n ≤ 200000 → F61_l4 ⟨[], f⟩ k ts out = some (lsP ts out) := by
  intro n
  induction n with
  | zero =>
    intro k ts out h1 h2 h3
    obtain ⟨k, rfl⟩ : ∃ m, k = m + 1 := ⟨k - 1, by omega⟩
    have : ts = [] := List.length_eq_zero_iff.1 (by omega)
    subst this
    rw [F61_l4, F41_t, lsP]; rfl
  | succ n IH =>
    intro k ts out h1 h2 h3
    obtain ⟨k, rfl⟩ : ∃ m, k = m + 1 := ⟨k - 1, by omega⟩
    rw [F61_l4, F41_t]
    cases ts with
    | nil => rw [lsP]; rfl
    | cons t r =>
      simp only [List.length_cons] at h1
      rw [lsP]
      simp only [Option.bind_some, acc]
      by_cases h : t = ⟨#[44]⟩
      · rw [if_pos h, if_pos h]
        have := wordP_len r
        simp only [if_true, F60_t, Option.bind_some]
        rw [apI_t (by simp; omega)]
        exact IH k _ _ (by omega) (by omega) (by simp; omega)
      · rw [if_neg h, if_neg h]; rfl
theorem F61_l4_b (ts0 : List ByteArray) (f : Bool) : ∀ (k : Nat) (ts out : List ByteArray), F61_l4 ⟨ts0, f⟩ k ts out = F61_l4 ⟨[], f⟩ k ts out
  | 0, ts, out => by rw [F61_l4, F61_l4]
  | k + 1, ts, out => by rw [F61_l4, F61_l4]; simp only [F61_l4_b ts0 f k]
def norm (l : List ByteArray) : List ByteArray := compL (sortL l)
def listP (ts : List ByteArray) : Option (List ByteArray × List ByteArray) :=
  match acc ⟨#[40]⟩ ts with
  | (_, false) => none
  | (t1, true) =>
    let w := wordP t1
    let l := lsP w.1 [w.2]
    match acc ⟨#[41]⟩ l.1 with
    | (_, false) => none
    | (t2, true) => some (t2, norm l.2)
def relL (o : Option (List ByteArray × List ByteArray)) (r : Parser × List ByteArray) : Prop :=
  match o with
  | none => r.1.failed = true
  | some (ts, l) => r = (⟨ts, false⟩, l)
theorem sort_t {l : List ByteArray} (h : l.length ≤ 4294967290) : sortI l = some (sortL l) := if_pos h
theorem comp_t {l : List ByteArray} (h : l.length ≤ 4294967290) : compI l = some (compL l) := if_pos h
theorem F61_t (ts : List ByteArray) (h : ts.length ≤ 100000) : ∃ r, F61 ⟨ts, false⟩ = some r ∧ relL (listP ts) r := by
  unfold F61 listP
  rw [F41_t]
  simp only [Option.bind_some]
  have ha := acc_len ⟨#[40]⟩ ts
  generalize acc ⟨#[40]⟩ ts = a at ha ⊢
  obtain ⟨t1, b⟩ := a
  cases b with
  | false => exact ⟨_, rfl, rfl⟩
  | true =>
    have hw := wordP_len t1
    simp only [nb_not, Bool.not_true, Bool.false_eq_true, if_false, F60_t, Option.bind_some]
    generalize wordP t1 = w at hw ⊢
    simp only at ha hw
    rw [F61_l4_b, F61_l4_t false t1.length 1099511627776 w.1 [w.2] (by omega) (by omega) (by simp; omega)]
    have hl := lsP_len t1.length w.1 [w.2] hw
    generalize lsP w.1 [w.2] = l at hl ⊢
    simp only [Option.bind_some, F41_t]
    simp only [List.length_cons, List.length_nil] at hl
    have e : (sortI l.2).bind (fun t12 => compI t12) = some (norm l.2) := by
      rw [sort_t (by omega), Option.bind_some, comp_t (by rw [sortL_len]; omega)]; rfl
    have es : sortI l.2 = some (sortL l.2) := sort_t (by omega)
    have ec : compI (sortL l.2) = some (norm l.2) := comp_t (by rw [sortL_len]; omega)
    generalize acc ⟨#[41]⟩ l.1 = c
    obtain ⟨t2, b2⟩ := c
    cases b2 with
    | false => simp only [Bool.not_false, if_true, Option.bind_some, es, ec]; exact ⟨_, rfl, rfl⟩
    | true => simp only [Bool.not_true, Bool.false_eq_true, if_false, Option.bind_some, es, ec]; exact ⟨_, rfl, rfl⟩
def opP (k : ByteArray) : List ByteArray → Option (List ByteArray × Requirement)
  | [] => some ([], ⟨k, 3, []⟩)
  | t :: r =>
    if t = ⟨#[61]⟩ then some ((wordP r).1, ⟨k, 1, [(wordP r).2]⟩)
    else if t = ⟨#[33, 61]⟩ then some ((wordP r).1, ⟨k, 2, [(wordP r).2]⟩)
    else if t = ⟨#[105, 110]⟩ then (listP r).map fun x => (x.1, ⟨k, 1, x.2⟩)
    else if t = ⟨#[110, 111, 116, 105, 110]⟩ then (listP r).map fun x => (x.1, ⟨k, 2, x.2⟩)
    else some (t :: r, ⟨k, 3, []⟩)
def reqP (ts : List ByteArray) : Option (List ByteArray × Requirement) :=
  let a := acc ⟨#[33]⟩ ts
  let w := wordP a.1
  if w.2 = ⟨#[]⟩ then none
  else if a.2 = true then some (w.1, ⟨w.2, 4, []⟩)
  else opP w.2 w.1
def relQ (o : Option (List ByteArray × Requirement)) (r : Parser × ByteArray × Int × List ByteArray) : Prop :=
  match o with
  | none => r.1.failed = true
  | some (ts, q) => r = (⟨ts, false⟩, q.Key, q.Op, q.Values)
theorem F42_t (ts : List ByteArray) (h : ts.length ≤ 100000) : ∃ r, F42 ⟨ts, false⟩ = some r ∧ relQ (reqP ts) r := by
  unfold F42 reqP
  simp only [F41_t, F60_t, Option.bind_some]
  have ha := acc_len ⟨#[33]⟩ ts
  generalize acc ⟨#[33]⟩ ts = a at ha ⊢
  have hw := wordP_len a.1
  generalize wordP a.1 = w at hw ⊢
  by_cases h0 : w.2 = ⟨#[]⟩
  · rw [if_pos h0, if_pos h0]; exact ⟨_, rfl, rfl⟩
  rw [if_neg h0, if_neg h0]
  by_cases h1 : a.2 = true
  · rw [if_pos h1, if_pos h1]; exact ⟨_, rfl, rfl⟩
  rw [if_neg h1, if_neg h1]
  obtain ⟨u, k⟩ := w
  simp only at hw h0 ⊢
  cases u with
  | nil => simp only [acc, opP, Bool.false_eq_true, if_false]; exact ⟨_, rfl, rfl⟩
  | cons t r =>
    simp only [List.length_cons] at hw
    have li : ∀ (op : Int), ∃ x, ((F61 ⟨r, false⟩).bind fun t13 => some (((⟨(t13.1).tokens, (t13.1).failed⟩ : Parser), k, op, t13.2))) = some x ∧ relQ ((listP r).map fun x => (x.1, ⟨k, op, x.2⟩)) x := fun op => by
      obtain ⟨x, hx, hr⟩ := F61_t r (by omega)
      rw [hx]
      refine ⟨_, rfl, ?_⟩
      cases hl : listP r with
      | none => rw [hl] at hr; exact hr
      | some y =>
        rw [hl] at hr
        obtain ⟨y1, y2⟩ := y
        have hr' : x = (⟨y1, false⟩, y2) := hr
        subst hr'
        exact rfl
    simp only [acc, opP]
    by_cases g1 : t = ⟨#[61]⟩
    · simp only [if_pos g1, if_true]; exact ⟨_, rfl, rfl⟩
    simp only [if_neg g1, Bool.false_eq_true, if_false, acc]
    by_cases g2 : t = ⟨#[33, 61]⟩
    · simp only [if_pos g2, if_true]; exact ⟨_, rfl, rfl⟩
    simp only [if_neg g2, Bool.false_eq_true, if_false, acc]
    by_cases g3 : t = ⟨#[105, 110]⟩
    · simp only [if_pos g3, if_true]; exact li 1
    simp only [if_neg g3, Bool.false_eq_true, if_false, acc]
    by_cases g4 : t = ⟨#[110, 111, 116, 105, 110]⟩
    · simp only [if_pos g4, if_true]; exact li 2
    simp only [if_neg g4, Bool.false_eq_true, if_false]
    exact ⟨_, rfl, rfl⟩
theorem listP_len {ts t2 l : List ByteArray} (h : listP ts = some (t2, l)) : t2.length ≤ ts.length := by
  unfold listP at h
  have h1 := acc_len ⟨#[40]⟩ ts
  split at h
  · cases h
  · rename_i t1 e
    rw [e] at h1
    have h2 := wordP_len t1
    have h3 := (lsP_len _ (wordP t1).1 [(wordP t1).2] (Nat.le_refl _)).1
    have h4 := acc_len ⟨#[41]⟩ (lsP (wordP t1).1 [(wordP t1).2]).1
    simp only at h
    split at h
    · cases h
    · rename_i t3 e3
      rw [e3] at h4
      simp only [Option.some.injEq, Prod.mk.injEq] at h
      obtain ⟨rfl, _⟩ := h
      simp only at h1 h4; omega
theorem opP_len {k : ByteArray} {ts t2 : List ByteArray} {q : Requirement} (h : opP k ts = some (t2, q)) : t2.length ≤ ts.length := by
  cases ts with
  | nil => simp only [opP, Option.some.injEq, Prod.mk.injEq] at h; rw [← h.1]; exact Nat.le_refl _
  | cons t r =>
    have := wordP_len r
    simp only [opP] at h
    split at h
    · simp only [Option.some.injEq, Prod.mk.injEq] at h; rw [← h.1]; simp; omega
    split at h
    · simp only [Option.some.injEq, Prod.mk.injEq] at h; rw [← h.1]; simp; omega
    split at h
    · obtain ⟨⟨y1, y2⟩, hy, e⟩ := Option.map_eq_some_iff.1 h
      simp only [Prod.mk.injEq] at e
      have := listP_len hy; rw [← e.1]; simp; omega
    split at h
    · obtain ⟨⟨y1, y2⟩, hy, e⟩ := Option.map_eq_some_iff.1 h
      simp only [Prod.mk.injEq] at e
      have := listP_len hy; rw [← e.1]; simp; omega
    · simp only [Option.some.injEq, Prod.mk.injEq] at h; rw [← h.1]; exact Nat.le_refl _
theorem wordP_lt {ts : List ByteArray} (h : (wordP ts).2 ≠ ⟨#[]⟩) : (wordP ts).1.length < ts.length := by
  cases ts with
  | nil => exact (h rfl).elim
  | cons t r =>
    simp only [wordP] at h ⊢
    split
    · simp
    · rename_i h1; rw [if_neg h1] at h; exact (h rfl).elim
theorem reqP_len {ts t2 : List ByteArray} {q : Requirement} (h : reqP ts = some (t2, q)) : t2.length < ts.length := by
  unfold reqP at h
  have h1 := acc_len ⟨#[33]⟩ ts
  simp only at h
  split at h
  · cases h
  rename_i h0
  have := wordP_lt h0
  split at h
  · simp only [Option.some.injEq, Prod.mk.injEq] at h; rw [← h.1]; omega
  · have := opP_len h; omega
def selP : Nat → List ByteArray → Option (List Requirement)
  | 0, _ => none
  | n + 1, ts => match reqP ts with
    | none => none
    | some (t2, q) => match t2 with
      | [] => some [q]
      | t :: r => if t = ⟨#[44]⟩ then (selP n r).map (q :: ·) else none
def relS (out : List Requirement) (o : Option (List Requirement)) (r : List Requirement × Parser) : Prop :=
  match o with
  | none => r.2.failed = true ∨ 0 < r.2.tokens.length
  | some l => r = (out ++ l, ⟨[], false⟩)
theorem F24_stop (k : Nat) (out : List Requirement) (ts : List ByteArray) (f m : Bool) (h : f = true ∨ m = false) : F24_l4 (k + 1) out ts f m = some (out, ⟨ts, f⟩) := by
  rw [F24_l4]
  rcases h with rfl | rfl
  · cases m <;> simp [nb_not]
  · simp
theorem F24_l4_t : ∀ (n k : Nat) (out : List Requirement) (ts : List ByteArray), ts.length ≤ n → n ≤ 100000 → n + 1 < k → out.length + n ≤ 200000 → ∃ r, F24_l4 k out ts false true = some r ∧ relS out (selP (n + 1) ts) r := by
  intro n
  induction n with
  | zero =>
    intro k out ts h1 _ h2 h3
    obtain ⟨k, rfl⟩ : ∃ m, k = m + 2 := ⟨k - 2, by omega⟩
    have : ts = [] := List.length_eq_zero_iff.1 (by omega)
    subst this
    obtain ⟨r, hr, hq⟩ := F42_t [] (by simp)
    have hq' : r.1.failed = true := hq
    rw [F24_l4]
    simp only [if_true, nb_not, Bool.not_false, Option.bind_some, hr]
    rw [apI_t (by simp; omega)]
    simp only [Option.bind_some, F41_t]
    rw [F24_stop _ _ _ _ _ (.inl hq')]
    exact ⟨_, rfl, .inl hq'⟩
  | succ n IH =>
    intro k out ts h1 hn h2 h3
    obtain ⟨k, rfl⟩ : ∃ m, k = m + 2 := ⟨k - 2, by omega⟩
    obtain ⟨r, hr, hq⟩ := F42_t ts (by omega)
    rw [F24_l4, selP]
    simp only [if_true, nb_not, Bool.not_false, Option.bind_some, hr]
    rw [apI_t (by simp; omega)]
    simp only [Option.bind_some, F41_t]
    cases hp : reqP ts with
    | none =>
      rw [hp] at hq
      have hq' : r.1.failed = true := hq
      rw [F24_stop _ _ _ _ _ (.inl hq')]
      exact ⟨_, rfl, .inl hq'⟩
    | some y =>
      obtain ⟨t2, q⟩ := y
      rw [hp] at hq
      have hq' : r = (⟨t2, false⟩, q.Key, q.Op, q.Values) := hq
      subst hq'
      have hl := reqP_len hp
      simp only
      cases t2 with
      | nil =>
        simp only [acc]
        rw [F24_stop _ _ _ _ _ (.inr rfl)]
        exact ⟨_, rfl, rfl⟩
      | cons t r2 =>
        simp only [List.length_cons] at hl
        simp only [acc]
        by_cases hc : t = ⟨#[44]⟩
        · simp only [if_pos hc]
          obtain ⟨x, hx, hs⟩ := IH (k + 1) (out ++ [q]) r2 (by omega) (by omega) (by omega) (by simp; omega)
          refine ⟨x, hx, ?_⟩
          cases hsp : selP (n + 1) r2 with
          | none => rw [hsp] at hs; exact hs
          | some l =>
            rw [hsp] at hs
            have hs' : x = (out ++ [q] ++ l, ⟨[], false⟩) := hs
            subst hs'
            show _ = (out ++ (q :: l), _)
            simp
        · simp only [if_neg hc]
          rw [F24_stop _ _ _ _ _ (.inr rfl)]
          exact ⟨_, rfl, .inr (by simp)⟩
def chk (q : Requirement) : Int := if (keyB q.Key && q.Values.all valB) = true then (if 64 < q.Values.length then 4 else 0) else 1
def chkA : List Requirement → Int
  | [] => 0
  | q :: r => if chk q = 0 then chkA r else chk q
theorem F76_l1_t : ∀ (l : List ByteArray) (i : Nat), ∃ r, F76_l1 l i = some r ∧ (l.all valB = true → r = .inr ()) ∧ (l.all valB = false → ∃ j : Nat, r = .inl (j : Int))
  | [], i => ⟨_, by rw [F76_l1], fun _ => rfl, fun h => by cases h⟩
  | x :: l, i => by
    rw [F76_l1]
    simp only [F63, F30_t, Option.bind_some, nb_not]
    cases hv : valB x
    · refine ⟨_, rfl, fun h => by simp [hv] at h, fun _ => ⟨i, rfl⟩⟩
    · obtain ⟨r, h1, h2, h3⟩ := F76_l1_t l (i + 1)
      exact ⟨r, by simpa using h1, fun h => h2 (by simpa [hv] using h), fun h => h3 (by simpa [hv] using h)⟩
theorem F62_t (l : List ByteArray) (h : l.length ≤ 4294967290) : F62 l = some (!l.all valB) := by
  unfold F62 F76
  rw [ck_t ⟨by omega, h⟩, Option.bind_some]
  obtain ⟨r, h1, h2, h3⟩ := F76_l1_t l 0
  rw [h1]
  cases ha : l.all valB
  · obtain ⟨j, rfl⟩ := h3 ha
    simp
  · rw [h2 ha]; rfl
theorem F43_t (q : Requirement) (h : q.Values.length ≤ 4294967290) : F43 q = some (chk q) := by
  unfold F43 chk
  simp only [F29_t, Option.bind_some, nb_not]
  cases hk : keyB q.Key
  · simp
  · rw [F62_t _ h]
    cases hv : q.Values.all valB
    · simp
    · by_cases h6 : 64 < q.Values.length
      · have : (64 : Int) < q.Values.length := by omega
        simp [this, h6]
      · have : ¬ (64 : Int) < q.Values.length := by omega
        simp [this, h6]
theorem F24_l14_t (o : List Requirement × Parser) (ho : ∀ q ∈ o.1, q.Values.length ≤ 4294967290) : ∀ (n i : Nat), o.1.length = i + n → F24_l14 o (o.1.drop i) i = some (if chkA (o.1.drop i) = 0 then .inr () else .inl ([], chkA (o.1.drop i)))
  | 0, i, h => by rw [List.drop_of_length_le (by omega), F24_l14]; rfl
  | n + 1, i, h => by
    have hlt : i < o.1.length := by omega
    rw [List.drop_eq_getElem_cons hlt, F24_l14, rdI_at hlt, Option.bind_some, F43_t _ (ho _ (List.getElem_mem hlt)), Option.bind_some, chkA]
    by_cases h0 : chk o.1[i] = 0
    · rw [if_neg (by simp [h0]), F24_l14_t o ho n (i + 1) (by omega), if_pos h0]
    · rw [if_pos h0, if_neg h0, if_neg h0]; rfl
def selT (ts : List ByteArray) : Option (List Requirement) := if ts = [] then some [] else selP (ts.length + 1) ts
def parseL (s : ByteArray) : List Requirement × Int :=
  if 20000 < s.size then ([], 4) else
  match tok (bl s) with
  | none => ([], 2)
  | some ts => match selT ts with
    | none => ([], 2)
    | some l => if chkA l = 0 then (if 16 < l.length then ([], 4) else (l, 0)) else ([], chkA l)
theorem norm_len (l : List ByteArray) : (norm l).length ≤ l.length := by
  have := compL_len (sortL l); rw [sortL_len] at this; exact this
theorem listP_vals {ts t2 l : List ByteArray} (h : listP ts = some (t2, l)) : l.length ≤ ts.length + 1 := by
  unfold listP at h
  have h1 := acc_len ⟨#[40]⟩ ts
  split at h
  · cases h
  · rename_i t1 e
    rw [e] at h1
    have h2 := wordP_len t1
    have h3 := (lsP_len _ (wordP t1).1 [(wordP t1).2] (Nat.le_refl _)).2
    simp only at h
    split at h
    · cases h
    · rename_i t3 e3
      simp only [Option.some.injEq, Prod.mk.injEq] at h
      rw [← h.2]
      have := norm_len (lsP (wordP t1).1 [(wordP t1).2]).2
      simp only [List.length_cons, List.length_nil] at h1 h3; omega
theorem opP_vals {k : ByteArray} {ts t2 : List ByteArray} {q : Requirement} (h : opP k ts = some (t2, q)) : q.Values.length ≤ ts.length + 1 := by
  cases ts with
  | nil => simp only [opP, Option.some.injEq, Prod.mk.injEq] at h; rw [← h.2]; simp
  | cons t r =>
    simp only [opP] at h
    split at h
    · simp only [Option.some.injEq, Prod.mk.injEq] at h; rw [← h.2]; simp
    split at h
    · simp only [Option.some.injEq, Prod.mk.injEq] at h; rw [← h.2]; simp
    split at h
    · obtain ⟨⟨y1, y2⟩, hy, e⟩ := Option.map_eq_some_iff.1 h
      simp only [Prod.mk.injEq] at e
      have := listP_vals hy; rw [← e.2]; simp; omega
    split at h
    · obtain ⟨⟨y1, y2⟩, hy, e⟩ := Option.map_eq_some_iff.1 h
      simp only [Prod.mk.injEq] at e
      have := listP_vals hy; rw [← e.2]; simp; omega
    · simp only [Option.some.injEq, Prod.mk.injEq] at h; rw [← h.2]; simp
theorem reqP_vals {ts t2 : List ByteArray} {q : Requirement} (h : reqP ts = some (t2, q)) : q.Values.length ≤ ts.length + 1 := by
  unfold reqP at h
  have h1 := acc_len ⟨#[33]⟩ ts
  have h2 := wordP_len (acc ⟨#[33]⟩ ts).1
  simp only at h
  split at h
  · cases h
  split at h
  · simp only [Option.some.injEq, Prod.mk.injEq] at h; rw [← h.2]; simp
  · have := opP_vals h; omega
theorem selP_spec : ∀ (n : Nat) (ts : List ByteArray) (l : List Requirement), selP n ts = some l → l.length ≤ ts.length ∧ ∀ q ∈ l, q.Values.length ≤ ts.length + 1
  | n + 1, ts, l, h => by
    rw [selP] at h
    split at h
    · cases h
    · rename_i t2 q hq
      have hl := reqP_len hq
      have hv := reqP_vals hq
      split at h
      · cases h; simp; omega
      · rename_i t r
        split at h
        · obtain ⟨l2, h2, rfl⟩ := Option.map_eq_some_iff.1 h
          have := selP_spec n r l2 h2
          simp only [List.length_cons] at hl
          refine ⟨by simp; omega, fun x hx => ?_⟩
          rcases List.mem_cons.1 hx with rfl | hx
          · exact hv
          · have := this.2 x hx; omega
        · cases h
theorem F24_t (s : ByteArray) (ha : s.size ≤ 20000 → ∀ c ∈ bl s, c.toNat < 128) : F24 s = some (parseL s) := by
  unfold F24 parseL
  by_cases h0 : 20000 < s.size
  · rw [if_pos h0, if_pos (by omega)]
  rw [if_neg h0, if_neg (by omega)]
  have hs : (bl s).length ≤ 20000 := by rw [← size_bl]; omega
  rw [F40_t s (by omega) (ha (by omega)), Option.bind_some]
  cases ht : tok (bl s) with
  | none => rfl
  | some ts =>
    have hl := tok_len _ _ (Nat.le_refl _) ts ht
    rw [show tokB (some ts) = (ts, true) from rfl]
    simp only [nb_not, Bool.not_true, Bool.false_eq_true, if_false]
    by_cases he : ts = []
    · subst he
      rw [show (decide ((0 : Int) < (([] : List ByteArray).length : Int))) = false from rfl, F24_stop 1099511627775 [] [] false false (.inr rfl)]
      rfl
    have hp : (0 : Int) < (ts.length : Int) := by
      have : ts.length ≠ 0 := fun h => he (List.length_eq_zero_iff.1 h)
      omega
    rw [decide_eq_true hp]
    obtain ⟨r, hr, hq⟩ := F24_l4_t ts.length 1099511627776 [] ts (Nat.le_refl _) (by omega) (by omega) (by simp; omega)
    rw [hr, Option.bind_some]
    simp only [selT, if_neg he]
    cases hp : selP (ts.length + 1) ts with
    | none =>
      rw [hp] at hq
      have hq' : r.2.failed = true ∨ 0 < r.2.tokens.length := hq
      rcases hq' with hq | hq
      · simp [hq]
      · have : (0 : Int) < (r.2.tokens.length : Int) := by omega
        cases hf : r.2.failed
        · simp only [Bool.false_eq_true, if_false, Option.bind_some, decide_eq_true this, if_true]
        · simp
    | some l =>
      rw [hp] at hq
      have hq' : r = ([] ++ l, ⟨[], false⟩) := hq
      subst hq'
      have hsp := selP_spec _ _ _ hp
      simp only [List.nil_append, Bool.false_eq_true, if_false, List.length_nil, Option.bind_some]
      rw [show (decide ((0 : Int) < ((0 : Nat) : Int))) = false from rfl]
      simp only [Bool.false_eq_true, if_false]
      rw [ck_t ⟨by omega, by omega⟩, Option.bind_some]
      have e := F24_l14_t (l, ⟨[], false⟩) (fun q hq => by have := hsp.2 q hq; omega) l.length 0 (by simp)
      simp only [List.drop_zero] at e
      rw [e]
      by_cases hc : chkA l = 0
      · rw [if_pos hc, if_pos hc]
        by_cases h16 : 16 < l.length
        · have : (16 : Int) < l.length := by omega
          simp [this, h16]
        · have : ¬ (16 : Int) < l.length := by omega
          simp [this, h16]
      · rw [if_neg hc, if_neg hc]; rfl
open Go Go.Fw
set_option maxRecDepth 100000

theorem bless_lt : ∀ x y : List UInt8, Op.bytesLess x y = decide (x < y)
  | [], [] => by simp [Op.bytesLess]
  | [], b :: y => by simp [Op.bytesLess]
  | a :: x, [] => by simp [Op.bytesLess]
  | a :: x, b :: y => by
    rw [Op.bytesLess, bless_lt x y, Bool.eq_iff_iff]
    simp only [Bool.or_eq_true, decide_eq_true_eq, Bool.and_eq_true, beq_iff_eq, List.cons_lt_cons_iff]
theorem toList_bl (b : ByteArray) : b.toList = bl b := by
  rw [show bl b = b.data.toList from rfl]; exact Go.ByteArray.toList_eq b
theorem lt_bl (a b : ByteArray) : lt a b ↔ bl a < bl b := by
  unfold lt; rw [toList_bl, toList_bl, bless_lt]; simp
theorem sortL_perm (xs : List ByteArray) : (sortL xs).Perm xs := by
  have h := (List.mergeSort_perm (xs.map bl) (fun x y => decide (x ≤ y))).map lb
  rw [List.map_map] at h
  have e : xs.map (lb ∘ bl) = xs := by
    have : (lb ∘ bl) = id := funext lb_bl
    rw [this, List.map_id]
  rw [e] at h; rw [sortL_eq]; exact h
theorem sortL_mem (z : ByteArray) (xs : List ByteArray) : z ∈ sortL xs ↔ z ∈ xs := (sortL_perm xs).mem_iff
theorem sortL_pw (xs : List ByteArray) : (sortL xs).Pairwise fun a b => ¬ lt b a := by
  have h := List.pairwise_mergeSort (le := fun x y : List UInt8 => decide (x ≤ y)) (fun a b c h1 h2 => by simp only [decide_eq_true_eq] at *; exact List.le_trans h1 h2) (fun a b => by simp only [Bool.or_eq_true, decide_eq_true_eq]; exact List.le_total a b) (xs.map bl)
  rw [sortL_eq, List.pairwise_map]
  refine h.imp fun {a b} hab => ?_
  rw [lt_bl, bl_lb, bl_lb]
  simp only [decide_eq_true_eq] at hab
  exact List.not_lt.2 hab
def keep (xs : List ByteArray) (j : Nat) : Bool := j == 0 || decide (xs[j]? ≠ xs[j - 1]?)
theorem compL_eq (xs : List ByteArray) : compL xs = ((List.range xs.length).filter (keep xs)).filterMap (xs[·]?) := by
  have hk : ∀ j ∈ List.range xs.length, Lib.keeps (xs.map bl).toArray j = keep xs j := by
    intro j hj
    have hj := List.mem_range.1 hj
    unfold Lib.keeps keep
    by_cases h0 : j = 0
    · simp [h0]
    · have h1 : j - 1 < xs.length := by omega
      rw [getElem!_pos _ j (by simpa using hj), getElem!_pos _ (j - 1) (by simpa using h1), List.getElem?_eq_getElem hj, List.getElem?_eq_getElem h1]
      simp only [List.getElem_toArray, List.getElem_map, ne_eq, Option.some.injEq]
      have : (bl xs[j] = bl xs[j - 1]) ↔ xs[j] = xs[j - 1] := ⟨fun e => by rw [← lb_bl xs[j], e, lb_bl], fun e => by rw [e]⟩
      simp [this, h0]
  unfold compL Lib.compact Lib.compactUpTo
  rw [List.length_map, List.filter_congr hk, List.map_map]
  rw [← List.filterMap_eq_map]
  have fc : ∀ (l : List Nat) (f g : Nat → Option ByteArray), (∀ j ∈ l, f j = g j) → l.filterMap f = l.filterMap g := by
    intro l f g
    induction l with
    | nil => intro _; rfl
    | cons x l ih =>
      intro h
      rw [List.filterMap_cons, List.filterMap_cons, h x (List.mem_cons_self ..), ih fun j hj => h j (List.mem_cons_of_mem _ hj)]
  refine fc _ _ _ fun j hj => ?_
  have hj := List.mem_range.1 (List.mem_filter.1 hj).1
  simp only [Function.comp]
  rw [getElem!_pos _ j (by simpa using hj), List.getElem?_eq_getElem hj]
  simp [lb_bl]
theorem compL_mem (z : ByteArray) (xs : List ByteArray) : z ∈ compL xs ↔ z ∈ xs := by
  rw [compL_eq, List.mem_filterMap]
  constructor
  · rintro ⟨j, _, h⟩; exact List.mem_of_getElem? h
  · intro h
    obtain ⟨i, hi, e⟩ := List.mem_iff_getElem.1 h
    have key : ∀ i, xs[i]? = some z → ∃ j, j ≤ i ∧ xs[j]? = some z ∧ keep xs j = true := by
      intro i
      induction i with
      | zero => intro h; exact ⟨0, Nat.le_refl _, h, rfl⟩
      | succ i ih =>
        intro h
        by_cases hp : xs[i]? = some z
        · obtain ⟨j, h1, h2⟩ := ih hp; exact ⟨j, by omega, h2⟩
        · exact ⟨i + 1, Nat.le_refl _, h, by unfold keep; rw [h, Nat.add_sub_cancel]; simp [Ne.symm hp]⟩
    obtain ⟨j, h1, h2, h3⟩ := key i (by rw [List.getElem?_eq_getElem hi, e])
    exact ⟨j, List.mem_filter.2 ⟨List.mem_range.2 (by omega), h3⟩, h2⟩
theorem compL_pw {xs : List ByteArray} (h : xs.Pairwise fun a b => ¬ lt b a) : (compL xs).Pairwise lt := by
  rw [compL_eq, List.pairwise_filterMap]
  have hr : ((List.range xs.length).filter (keep xs)).Pairwise (· < ·) := List.pairwise_lt_range.filter _
  refine List.Pairwise.imp_of_mem (fun {j k} hj hk hjk => ?_) hr
  intro a ha b hb
  have hkk := (List.mem_filter.1 hk).2
  have hp := List.pairwise_iff_getElem.1 h
  obtain ⟨hjl, ea⟩ := List.getElem?_eq_some_iff.1 ha
  obtain ⟨hkl, eb⟩ := List.getElem?_eq_some_iff.1 hb
  have h1 : ¬ lt b a := by rw [← ea, ← eb]; exact hp j k hjl hkl hjk
  refine lt_of_not h1 fun e => ?_
  unfold keep at hkk
  have hk0 : k ≠ 0 := by omega
  simp only [Bool.or_eq_true, beq_iff_eq, hk0, false_or, decide_eq_true_eq] at hkk
  apply hkk
  have hk1 : k - 1 < xs.length := by omega
  rw [List.getElem?_eq_getElem hkl, List.getElem?_eq_getElem hk1]
  congr 1
  by_cases hjk1 : j = k - 1
  · subst hjk1; rw [ea, eb, e]
  · have g1 := hp j (k - 1) hjl hk1 (by omega)
    have g2 := hp (k - 1) k hk1 hkl (by omega)
    rw [ea, ← e] at g1
    rw [eb] at g2 ⊢
    exact lt_tri g2 g1
theorem pw_uniq : ∀ {a b : List ByteArray}, a.Pairwise lt → b.Pairwise lt → (∀ z, z ∈ a ↔ z ∈ b) → a = b
  | [], [], _, _, _ => rfl
  | [], y :: b, _, _, h => by have := (h y).2 (List.mem_cons_self ..); cases this
  | x :: a, [], _, _, h => by have := (h x).1 (List.mem_cons_self ..); cases this
  | x :: a, y :: b, ha, hb, h => by
    have ha2 := List.pairwise_cons.1 ha
    have hb2 := List.pairwise_cons.1 hb
    have hxy : x = y := by
      rcases List.mem_cons.1 ((h x).1 (List.mem_cons_self ..)) with e | hx
      · exact e
      · rcases List.mem_cons.1 ((h y).2 (List.mem_cons_self ..)) with e | hy
        · exact e.symm
        · exact (lt_asymm (hb2.1 x hx) (ha2.1 y hy)).elim
    subst hxy
    congr 1
    refine pw_uniq ha2.2 hb2.2 fun z => ⟨fun hz => ?_, fun hz => ?_⟩
    · rcases List.mem_cons.1 ((h z).1 (List.mem_cons_of_mem _ hz)) with e | hz2
      · exact (lt_irrefl x (e ▸ ha2.1 z hz)).elim
      · exact hz2
    · rcases List.mem_cons.1 ((h z).2 (List.mem_cons_of_mem _ hz)) with e | hz2
      · exact (lt_irrefl x (e ▸ hb2.1 z hz)).elim
      · exact hz2
theorem bl_mk (a : Array UInt8) : bl ⟨a⟩ = a.toList := rfl
theorem cat_l {a b : ByteArray} (h : (bl a).length + (bl b).length ≤ 9000000000) : catI a b = some (lb (bl a ++ bl b)) := by
  unfold catI
  rw [if_pos (by rw [size_bl, size_bl]; omega)]
  rw [lb_app, lb_bl, lb_bl]
def joT (sep : List UInt8) (r : List (List UInt8)) : List UInt8 := (r.map (sep ++ ·)).flatten
def jo (sep : List UInt8) : List (List UInt8) → List UInt8
  | [] => []
  | x :: r => x ++ joT sep r
theorem jo_eq (sep : List UInt8) : ∀ l, Lib.join l sep = jo sep l
  | [] => rfl
  | x :: r => Lib.join_cons x r sep
theorem joT_cons (sep y : List UInt8) (r : List (List UInt8)) : joT sep (y :: r) = sep ++ y ++ joT sep r := by simp [joT]
theorem joT_len (sep : List UInt8) (m : Nat) : ∀ r : List (List UInt8), (∀ x ∈ r, x.length ≤ m) → (joT sep r).length ≤ r.length * (sep.length + m)
  | [], _ => by simp [joT]
  | y :: r, h => by
    have := joT_len sep m r fun x hx => h x (List.mem_cons_of_mem _ hx)
    have := h y (List.mem_cons_self ..)
    rw [joT_cons]; simp [Nat.add_mul]; omega
theorem jo_len (sep : List UInt8) (m : Nat) : ∀ r : List (List UInt8), (∀ x ∈ r, x.length ≤ m) → (jo sep r).length ≤ r.length * (sep.length + m)
  | [], _ => by simp [jo]
  | y :: r, h => by
    have := joT_len sep m r fun x hx => h x (List.mem_cons_of_mem _ hx)
    have := h y (List.mem_cons_self ..)
    simp [jo, Nat.add_mul]; omega
def shV (vs : List ByteArray) : List UInt8 := jo [44] (vs.map bl)
def shL (q : Requirement) : List UInt8 :=
  if q.Op = 1 then bl q.Key ++ [32, 105, 110, 32, 40] ++ shV q.Values ++ [41]
  else if q.Op = 2 then bl q.Key ++ [32, 110, 111, 116, 105, 110, 32, 40] ++ shV q.Values ++ [41]
  else if q.Op = 4 then 33 :: bl q.Key else bl q.Key
def sq (q : Requirement) : Prop := (bl q.Key).length ≤ 100 ∧ q.Values.length ≤ 100 ∧ ∀ v ∈ q.Values, (bl v).length ≤ 100
theorem shV_len {vs : List ByteArray} (h1 : vs.length ≤ 100) (h2 : ∀ v ∈ vs, (bl v).length ≤ 100) : (shV vs).length ≤ 10100 := by
  have := jo_len [44] 100 (vs.map bl) fun x hx => by obtain ⟨v, hv, rfl⟩ := List.mem_map.1 hx; exact h2 v hv
  simp only [List.length_map, List.length_cons, List.length_nil] at this
  have e : vs.length * 101 ≤ 100 * 101 := Nat.mul_le_mul_right _ h1
  unfold shV; omega
theorem shL_len {q : Requirement} (h : sq q) : (shL q).length ≤ 10300 := by
  have := shV_len h.2.1 h.2.2
  have := h.1
  unfold shL
  split
  · simp; omega
  split
  · simp; omega
  split
  · simp; omega
  · omega
theorem join_t {l : List ByteArray} {sep : ByteArray} (h1 : l.length ≤ 4294967290) (h2 : (jo (bl sep) (l.map bl)).length ≤ 4294967290) : joinI l sep = some (lb (jo (bl sep) (l.map bl))) := by
  unfold joinI joinL
  rw [jo_eq, if_pos ⟨h1, by rw [size_bl, bl_lb]; exact h2⟩]
theorem b44 : bl ⟨#[44]⟩ = [44] := rfl
theorem F48_t {q : Requirement} (h : sq q) : F48 q = some (lb (shL q)) := by
  have hv := shV_len h.2.1 h.2.2
  have hk := h.1
  have h2 := h.2.1
  have ej : joinI q.Values ⟨#[44]⟩ = some (lb (shV q.Values)) := join_t (by omega) (by rw [b44]; unfold shV at hv; omega)
  unfold F48 shL
  by_cases g1 : q.Op = 1
  · rw [if_pos g1, if_pos g1, cat_l (by simp [bl_mk]; omega), Option.bind_some, ej, Option.bind_some, cat_l (by simp only [bl_lb]; simp [bl_mk]; omega), Option.bind_some, cat_l (by simp only [bl_lb]; simp [bl_mk]; omega)]
    simp only [bl_lb, Option.bind_some]; rfl
  rw [if_neg g1, if_neg g1]
  by_cases g2 : q.Op = 2
  · rw [if_pos g2, if_pos g2, cat_l (by simp [bl_mk]; omega), Option.bind_some, ej, Option.bind_some, cat_l (by simp only [bl_lb]; simp [bl_mk]; omega), Option.bind_some, cat_l (by simp only [bl_lb]; simp [bl_mk]; omega)]
    simp only [bl_lb, Option.bind_some]; rfl
  rw [if_neg g2, if_neg g2]
  by_cases g4 : q.Op = 4
  · rw [if_pos g4, if_pos g4, cat_l (by simp [bl_mk]; omega)]; rfl
  · rw [if_neg g4, if_neg g4, lb_bl]
def shS (s : List Requirement) : List UInt8 := jo [44, 32] (s.map shL)
def printL (s : List Requirement) : ByteArray × Int := if validS s = true then (if 20000 < (shS s).length then (⟨#[]⟩, 4) else (lb (shS s), 0)) else (⟨#[]⟩, 1)
theorem F27_l3_t : ∀ (l : List Requirement) (i : Nat) (o : List ByteArray), (∀ q ∈ l, sq q) → o.length + l.length ≤ 100000 → F27_l3 l i o = some (o ++ l.map fun q => lb (shL q))
  | [], i, o, _, _ => by rw [F27_l3]; simp
  | q :: l, i, o, h, hl => by
    simp at hl
    rw [F27_l3, F48_t (h q (List.mem_cons_self ..)), Option.bind_some, apI_t (by simp; omega), Option.bind_some, F27_l3_t l (i + 1) _ (fun x hx => h x (List.mem_cons_of_mem _ hx)) (by simp; omega)]
    simp
theorem shS_len {s : List Requirement} (h : ∀ q ∈ s, sq q) (hl : s.length ≤ 100) : (shS s).length ≤ 1100000 := by
  have := jo_len [44, 32] 10300 (s.map shL) fun x hx => by obtain ⟨v, hv, rfl⟩ := List.mem_map.1 hx; exact shL_len (h v hv)
  simp only [List.length_map, List.length_cons, List.length_nil] at this
  have e : s.length * (0 + 1 + 1 + 10300) ≤ 100 * (0 + 1 + 1 + 10300) := Nat.mul_le_mul_right _ hl
  unfold shS; omega
theorem shS_map (s : List Requirement) : ((s.map fun q => lb (shL q)).map bl) = s.map shL := by
  rw [List.map_map]; exact List.map_congr_left fun q _ => bl_lb _
theorem F27_t {s : List Requirement} (h : ∀ q ∈ s, sq q) (hl : s.length ≤ 100) : F27 s = some (printL s) := by
  have hs := shS_len h hl
  unfold F27 printL
  rw [F15_t, Option.bind_some, nb_not]
  cases hv : validS s
  · rfl
  · simp only [Bool.not_true, Bool.false_eq_true, if_false, if_true]
    rw [ck_t ⟨by omega, by omega⟩, Option.bind_some, F27_l3_t s 0 [] h (by simp; omega), Option.bind_some, List.nil_append, join_t (by simp; omega) (by rw [shS_map]; unfold shS at hs; exact Nat.le_trans hs (by decide)), Option.bind_some, shS_map]
    show (if (20000 : Int) < ((lb (shS s)).size : Int) then _ else _) = some (if 20000 < (shS s).length then _ else _)
    rw [size_bl, bl_lb]
    by_cases g : 20000 < (shS s).length
    · rw [if_pos (by omega), if_pos g]
    · rw [if_neg (by omega), if_neg g]; rfl
theorem small_sq {l s} (h : small l s = true) : ∀ q ∈ s, sq q := fun q hq => by
  have := small_v h hq; exact this
open Go Go.Fw
set_option maxRecDepth 100000

def wd (l : List UInt8) : Prop := ∀ c ∈ l, wb c = true
def bnd (l : List UInt8) : Prop := ∀ c r, l = c :: r → wb c = false
theorem takeW_app {w r : List UInt8} (h : wd w) (hb : bnd r) : (w ++ r).takeWhile wb = w ∧ (w ++ r).dropWhile wb = r := by
  induction w with
  | nil =>
    cases r with
    | nil => simp
    | cons c r => have := hb c r rfl; simp [List.takeWhile_cons, List.dropWhile_cons, this]
  | cons c w ih =>
    have hc := h c (List.mem_cons_self ..)
    have := ih fun x hx => h x (List.mem_cons_of_mem _ hx)
    simp [List.takeWhile_cons, List.dropWhile_cons, hc, this]
theorem wb32 : wb 32 = false := by decide
theorem tok_w {w r : List UInt8} (hne : w ≠ []) (h : wd w) (hb : bnd r) : tok (w ++ r) = (tok r).map (lb w :: ·) := by
  cases w with
  | nil => exact (hne rfl).elim
  | cons c w =>
    have hc := h c (List.mem_cons_self ..)
    have hw := takeW_app (fun x hx => h x (List.mem_cons_of_mem _ hx)) hb
    rw [List.cons_append, tok, if_neg (fun e => by rw [e, wb32] at hc; cases hc), if_pos hc, hw.1, hw.2]
theorem tok_sp (r : List UInt8) : tok (32 :: r) = tok r := by rw [tok, if_pos rfl]
theorem tok_40 (r : List UInt8) : tok (40 :: r) = (tok r).map (lb [40] :: ·) := by rw [tok, if_neg (by decide), if_neg (by decide), if_neg (by simp), if_pos (by decide)]
theorem tok_41 (r : List UInt8) : tok (41 :: r) = (tok r).map (lb [41] :: ·) := by rw [tok, if_neg (by decide), if_neg (by decide), if_neg (by simp), if_pos (by decide)]
theorem tok_44 (r : List UInt8) : tok (44 :: r) = (tok r).map (lb [44] :: ·) := by rw [tok, if_neg (by decide), if_neg (by decide), if_neg (by simp), if_pos (by decide)]
theorem tok_33 {c : UInt8} (r : List UInt8) (h : c ≠ 61) : tok (33 :: c :: r) = (tok (c :: r)).map (lb [33] :: ·) := by rw [tok, if_neg (by decide), if_neg (by decide), if_neg (by simp [h]), if_pos (by decide)]
theorem bnd_nil : bnd [] := fun c r h => by cases h
theorem bnd_c {c : UInt8} (r : List UInt8) (h : wb c = false) : bnd (c :: r) := fun c' r' e => by cases e; exact h
theorem key_wd {k : ByteArray} (h : keyB k = true) : bl k ≠ [] ∧ wd (bl k) := by
  simp only [keyB, keyL, Bool.and_eq_true, decide_eq_true_eq, List.all_eq_true] at h
  exact ⟨fun e => by rw [e] at h; simp at h, h.2⟩
theorem val_wd {v : ByteArray} (h : valB v = true) : wd (bl v) := by
  simp only [valB, valL, Bool.and_eq_true, List.all_eq_true] at h
  intro c hc
  have := h.2 c hc
  simp only [valc, Bool.and_eq_true] at this
  exact this.1
def wv (v : ByteArray) : List ByteArray := if bl v = [] then [] else [v]
def vT : List ByteArray → List ByteArray
  | [] => []
  | [v] => wv v
  | v :: w :: r => wv v ++ lb [44] :: vT (w :: r)
theorem tok_v {v : ByteArray} {r : List UInt8} (h : valB v = true) (hb : bnd r) : tok (bl v ++ r) = (tok r).map (wv v ++ ·) := by
  unfold wv
  by_cases he : bl v = []
  · rw [if_pos he, he]; simp
  · rw [if_neg he, tok_w he (val_wd h) hb, lb_bl]; rfl
theorem tok_vs : ∀ (vs : List ByteArray) (r : List UInt8), (∀ v ∈ vs, valB v = true) → tok (shV vs ++ 41 :: r) = (tok r).map fun l => vT vs ++ lb [41] :: l
  | [], r, _ => by rw [show shV [] = [] from rfl, List.nil_append, tok_41]; rfl
  | [v], r, h => by
    rw [show shV [v] = bl v by simp [shV, jo, joT], tok_v (h v (List.mem_cons_self ..)) (bnd_c _ (by decide)), tok_41, Option.map_map]; rfl
  | v :: w :: vs, r, h => by
    have e : shV (v :: w :: vs) = bl v ++ 44 :: shV (w :: vs) := by simp [shV, jo, joT]
    rw [e, List.append_assoc, List.cons_append, tok_v (h v (List.mem_cons_self ..)) (bnd_c _ (by decide)), tok_44, tok_vs (w :: vs) r fun x hx => h x (List.mem_cons_of_mem _ hx), Option.map_map, Option.map_map]
    congr 1
    funext l
    simp [vT]
def reqT (q : Requirement) : List ByteArray :=
  if q.Op = 1 then q.Key :: lb [105, 110] :: lb [40] :: (vT q.Values ++ [lb [41]])
  else if q.Op = 2 then q.Key :: lb [110, 111, 116, 105, 110] :: lb [40] :: (vT q.Values ++ [lb [41]])
  else if q.Op = 4 then [lb [33], q.Key] else [q.Key]
theorem validR_spec {q : Requirement} (h : validR q = true) : keyB q.Key = true ∧ (((q.Op = 3 ∨ q.Op = 4) ∧ q.Values = []) ∨ ((q.Op = 1 ∨ q.Op = 2) ∧ 1 ≤ q.Values.length ∧ q.Values.length ≤ 64 ∧ adj id valB none q.Values = true)) := by
  simp only [validR, Bool.and_eq_true] at h
  refine ⟨h.1, ?_⟩
  have h2 := h.2
  split at h2
  · exact .inl ⟨by assumption, List.length_eq_zero_iff.1 (by simpa using h2)⟩
  · simp only [Bool.and_eq_true, decide_eq_true_eq] at h2
    exact .inr ⟨h2.1, h2.2.1.1, h2.2.1.2, h2.2.2⟩
theorem validR_vals {q : Requirement} (h : validR q = true) : ∀ v ∈ q.Values, valB v = true := by
  rcases (validR_spec h).2 with h2 | h2
  · rw [h2.2]; simp
  · exact ((adj_iff id valB _ _).1 h2.2.2.2).1
theorem wd_in : wd [105, 110] := by unfold wd; decide
theorem wd_notin : wd [110, 111, 116, 105, 110] := by unfold wd; decide
theorem tok_req {q : Requirement} (h : validR q = true) {r : List UInt8} (hb : bnd r) : tok (shL q ++ r) = (tok r).map (reqT q ++ ·) := by
  have hk := key_wd (validR_spec h).1
  have hv := validR_vals h
  unfold shL reqT
  by_cases g1 : q.Op = 1
  · rw [if_pos g1, if_pos g1]
    have e : bl q.Key ++ [32, 105, 110, 32, 40] ++ shV q.Values ++ [41] ++ r = bl q.Key ++ (32 :: ([105, 110] ++ (32 :: 40 :: (shV q.Values ++ 41 :: r)))) := by simp
    rw [e, tok_w hk.1 hk.2 (bnd_c _ wb32), tok_sp, tok_w (by simp) wd_in (bnd_c _ wb32), tok_sp, tok_40, tok_vs _ _ hv]
    simp only [Option.map_map, lb_bl]
    congr 1
    funext l
    simp
  rw [if_neg g1, if_neg g1]
  by_cases g2 : q.Op = 2
  · rw [if_pos g2, if_pos g2]
    have e : bl q.Key ++ [32, 110, 111, 116, 105, 110, 32, 40] ++ shV q.Values ++ [41] ++ r = bl q.Key ++ (32 :: ([110, 111, 116, 105, 110] ++ (32 :: 40 :: (shV q.Values ++ 41 :: r)))) := by simp
    rw [e, tok_w hk.1 hk.2 (bnd_c _ wb32), tok_sp, tok_w (by simp) wd_notin (bnd_c _ wb32), tok_sp, tok_40, tok_vs _ _ hv]
    simp only [Option.map_map, lb_bl]
    congr 1
    funext l
    simp
  rw [if_neg g2, if_neg g2]
  by_cases g4 : q.Op = 4
  · rw [if_pos g4, if_pos g4]
    obtain ⟨c, k, e⟩ : ∃ c k, bl q.Key = c :: k := by
      cases hb : bl q.Key with
      | nil => exact (hk.1 hb).elim
      | cons c k => exact ⟨c, k, rfl⟩
    have hc : wb c = true := hk.2 c (by rw [e]; exact List.mem_cons_self ..)
    rw [List.cons_append, e, List.cons_append, tok_33 _ (fun e => by rw [e] at hc; exact absurd hc (by decide)), ← List.cons_append, ← e, tok_w hk.1 hk.2 hb, lb_bl, Option.map_map]; rfl
  · rw [if_neg g4, if_neg g4, tok_w hk.1 hk.2 hb, lb_bl]; rfl
def sT : List Requirement → List ByteArray
  | [] => []
  | [q] => reqT q
  | q :: p :: r => reqT q ++ lb [44] :: sT (p :: r)
theorem tok_sel : ∀ (s : List Requirement) (r : List UInt8), s ≠ [] → (∀ q ∈ s, validR q = true) → bnd r → tok (shS s ++ r) = (tok r).map (sT s ++ ·)
  | [], r, h, _, _ => (h rfl).elim
  | [q], r, _, h, hb => by
    rw [show shS [q] = shL q by simp [shS, jo, joT], tok_req (h q (List.mem_cons_self ..)) hb]; rfl
  | q :: p :: s, r, _, h, hb => by
    have e : shS (q :: p :: s) = shL q ++ 44 :: 32 :: shS (p :: s) := by simp [shS, jo, joT]
    rw [e, List.append_assoc, List.cons_append, List.cons_append, tok_req (h q (List.mem_cons_self ..)) (bnd_c _ (by decide)), tok_44, tok_sp, tok_sel (p :: s) r (by simp) (fun x hx => h x (List.mem_cons_of_mem _ hx)) hb]
    simp only [Option.map_map]
    congr 1
    funext l
    simp [sT]
theorem isW_val {v : ByteArray} (h : wd (bl v)) (hne : bl v ≠ []) : isW v = true := by
  unfold isW
  cases hb : bl v with
  | nil => exact (hne hb).elim
  | cons c l => exact h c (by rw [hb]; exact List.mem_cons_self ..)
theorem wordP_v {v : ByteArray} (h : valB v = true) {t : ByteArray} (ht : isW t = false) (r : List ByteArray) : wordP (wv v ++ t :: r) = (t :: r, v) := by
  unfold wv
  by_cases he : bl v = []
  · rw [if_pos he, (emp_iff v).2 he]; simp [wordP, ht]
  · rw [if_neg he]; simp [wordP, isW_val (val_wd h) he]
theorem ne_c : (lb [41] : ByteArray) ≠ ⟨#[44]⟩ := by decide
theorem lsP_vs : ∀ (vs : List ByteArray) (w : ByteArray) (r out : List ByteArray), (∀ v ∈ w :: vs, valB v = true) → lsP (wordP (vT (w :: vs) ++ lb [41] :: r)).1 (out ++ [(wordP (vT (w :: vs) ++ lb [41] :: r)).2]) = (lb [41] :: r, out ++ w :: vs)
  | [], w, r, out, h => by
    rw [show vT [w] = wv w from rfl, wordP_v (h w (List.mem_cons_self ..)) (by decide), lsP, if_neg ne_c]
  | v :: vs, w, r, out, h => by
    have e : vT (w :: v :: vs) ++ lb [41] :: r = wv w ++ lb [44] :: (vT (v :: vs) ++ lb [41] :: r) := by simp [vT]
    rw [e, wordP_v (h w (List.mem_cons_self ..)) (by decide), lsP, if_pos (show lb [44] = ⟨#[44]⟩ from rfl), lsP_vs vs v r (out ++ [w]) fun x hx => h x (List.mem_cons_of_mem _ hx)]
    simp
theorem norm_eq {l : List ByteArray} (h : l.Pairwise lt) : norm l = l := by
  unfold norm
  refine pw_uniq (compL_pw (sortL_pw l)) h fun z => ?_
  rw [compL_mem, sortL_mem]
theorem listP_vs {vs : List ByteArray} (hne : 1 ≤ vs.length) (hv : adj id valB none vs = true) (r : List ByteArray) : listP (lb [40] :: (vT vs ++ lb [41] :: r)) = some (r, vs) := by
  have ha := (adj_iff id valB _ _).1 hv
  cases vs with
  | nil => simp at hne
  | cons w vs =>
    have hl := lsP_vs vs w r [] ha.1
    simp only [List.nil_append] at hl
    unfold listP
    rw [show acc ⟨#[40]⟩ (lb [40] :: (vT (w :: vs) ++ lb [41] :: r)) = (vT (w :: vs) ++ lb [41] :: r, true) from by simp only [acc]; exact if_pos (show lb [40] = ⟨#[40]⟩ from rfl)]
    simp only [hl]
    rw [show acc ⟨#[41]⟩ (lb [41] :: r) = (r, true) from by simp only [acc]; exact if_pos (show lb [41] = ⟨#[41]⟩ from rfl)]
    simp only
    rw [norm_eq (by simpa using ha.2.1)]
def sep (l : List ByteArray) : Prop := ∀ t r, l = t :: r → t = lb [44]
theorem reqP_t {q : Requirement} (h : validR q = true) {r : List ByteArray} (hr : sep r) : reqP (reqT q ++ r) = some (r, q) := by
  have hs := validR_spec h
  have hk := key_wd hs.1
  have hw := isW_val hk.2 hk.1
  have hne : q.Key ≠ ⟨#[33]⟩ := fun e => by rw [e] at hw; exact absurd hw (by decide)
  have hn0 : q.Key ≠ ⟨#[]⟩ := fun e => hk.1 ((emp_iff _).1 e)
  have wk : ∀ l, wordP (q.Key :: l) = (l, q.Key) := fun l => by simp [wordP, hw]
  have ak : ∀ l, acc ⟨#[33]⟩ (q.Key :: l) = (q.Key :: l, false) := fun l => by simp [acc, hne]
  unfold reqT reqP
  obtain ⟨k, op, vs⟩ := q
  simp only at *
  by_cases g1 : op = 1
  · subst g1
    rcases hs.2 with h2 | h2
    · omega
    simp only [if_true, List.cons_append, List.append_assoc, List.nil_append, ak, wk, hn0, if_false, Bool.false_eq_true, opP]
    rw [if_neg (by decide), if_neg (by decide), if_pos (by decide), listP_vs h2.2.1 h2.2.2.2]
    rfl
  by_cases g2 : op = 2
  · subst g2
    rcases hs.2 with h2 | h2
    · omega
    simp only [if_true, List.cons_append, List.append_assoc, List.nil_append, ak, wk, hn0, if_false, Bool.false_eq_true, opP, g1]
    rw [if_neg (by decide), if_neg (by decide), if_neg (by decide), if_pos (by decide), listP_vs h2.2.1 h2.2.2.2]
    rfl
  rcases hs.2 with h2 | h2
  · obtain ⟨h3, rfl⟩ := h2
    by_cases g4 : op = 4
    · subst g4
      simp only [if_neg g1, if_neg g2, if_true, List.cons_append, List.nil_append]
      rw [show acc ⟨#[33]⟩ (lb [33] :: k :: r) = (k :: r, true) from by simp only [acc]; exact if_pos (show lb [33] = ⟨#[33]⟩ from rfl)]
      simp only [wk, hn0, if_false, if_true]
    · have g3 : op = 3 := by omega
      subst g3
      simp only [if_neg g1, if_neg g2, if_neg g4, List.cons_append, List.nil_append, ak, wk, hn0, if_false, Bool.false_eq_true]
      cases r with
      | nil => rfl
      | cons t r =>
        have := hr t r rfl
        subst this
        simp only [opP]
        rw [if_neg (by decide), if_neg (by decide), if_neg (by decide), if_neg (by decide)]
  · omega
theorem reqT_ne (q : Requirement) : 1 ≤ (reqT q).length := by
  unfold reqT; split
  · simp
  split
  · simp
  split <;> simp
theorem sT_len : ∀ s : List Requirement, s.length ≤ (sT s).length
  | [] => Nat.le_refl _
  | [q] => reqT_ne q
  | q :: p :: r => by have := sT_len (p :: r); have := reqT_ne q; simp [sT] at *; omega
theorem selP_s : ∀ (s : List Requirement) (n : Nat), s ≠ [] → s.length ≤ n → (∀ q ∈ s, validR q = true) → selP n (sT s) = some s
  | [], n, h, _, _ => (h rfl).elim
  | [q], n + 1, _, _, h => by
    rw [selP, show sT [q] = reqT q ++ [] by simp [sT], reqP_t (h q (List.mem_cons_self ..)) (fun t r e => by cases e)]
  | q :: p :: s, n + 1, _, hn, h => by
    rw [selP, show sT (q :: p :: s) = reqT q ++ lb [44] :: sT (p :: s) from rfl, reqP_t (h q (List.mem_cons_self ..)) (fun t r e => by cases e; rfl)]
    simp only
    rw [if_pos (show lb [44] = ⟨#[44]⟩ from rfl), selP_s (p :: s) n (by simp) (by simpa using hn) fun x hx => h x (List.mem_cons_of_mem _ hx)]
    rfl
theorem chk_0 {q : Requirement} (h : validR q = true) : chk q = 0 := by
  have hs := validR_spec h
  have hv := validR_vals h
  unfold chk
  rw [if_pos (by rw [hs.1, List.all_eq_true.2 hv]; rfl), if_neg]
  rcases hs.2 with h2 | h2
  · rw [h2.2]; simp
  · omega
theorem chkA_0 : ∀ s : List Requirement, (∀ q ∈ s, validR q = true) → chkA s = 0
  | [], _ => rfl
  | q :: s, h => by rw [chkA, if_pos (chk_0 (h q (List.mem_cons_self ..))), chkA_0 s fun x hx => h x (List.mem_cons_of_mem _ hx)]
theorem selT_s {s : List Requirement} (h : ∀ q ∈ s, validR q = true) : selT (sT s) = some s := by
  unfold selT
  cases s with
  | nil => rfl
  | cons q s =>
    have := sT_len (q :: s)
    rw [if_neg fun e => by rw [e] at this; simp at this]
    exact selP_s _ _ (by simp) (by omega) h
theorem parse_text {s : List Requirement} {t : List UInt8} (hv : validS s = true) (ht : tok t = some (sT s)) (hl : t.length ≤ 20000) : parseL (lb t) = (s, 0) := by
  simp only [validS, Bool.and_eq_true, List.all_eq_true, decide_eq_true_eq] at hv
  unfold parseL
  rw [if_neg (by rw [size_bl, bl_lb]; omega), bl_lb, ht]
  simp only
  rw [selT_s hv.2]
  simp only
  rw [if_pos (chkA_0 s hv.2), if_neg (by omega)]
theorem tok_shS {s : List Requirement} (h : ∀ q ∈ s, validR q = true) : tok (shS s) = some (sT s) := by
  cases s with
  | nil => rw [show shS [] = [] from rfl, tok]; rfl
  | cons q s =>
    have := tok_sel (q :: s) [] (by simp) h bnd_nil
    rw [List.append_nil, tok] at this
    rw [this]; simp
theorem wb_small {c : UInt8} (h : wb c = true) : c.toNat < 128 := by
  simp only [wb, wbN, Bool.or_eq_true, Bool.and_eq_true, decide_eq_true_eq] at h
  omega
def sm (l : List UInt8) : Prop := ∀ c ∈ l, c.toNat < 128
theorem sm_app {a b : List UInt8} (ha : sm a) (hb : sm b) : sm (a ++ b) := fun c hc => (List.mem_append.1 hc).elim (ha c) (hb c)
theorem sm_wd {l : List UInt8} (h : wd l) : sm l := fun c hc => wb_small (h c hc)
theorem sm_joT {sep : List UInt8} (hs : sm sep) : ∀ {l : List (List UInt8)}, (∀ x ∈ l, sm x) → sm (joT sep l)
  | [], _ => fun c hc => by simp [joT] at hc
  | x :: l, h => by
    rw [joT_cons]
    exact sm_app (sm_app hs (h x (List.mem_cons_self ..))) (sm_joT hs fun y hy => h y (List.mem_cons_of_mem _ hy))
theorem sm_jo {sep : List UInt8} (hs : sm sep) {l : List (List UInt8)} (h : ∀ x ∈ l, sm x) : sm (jo sep l) := by
  cases l with
  | nil => exact fun c hc => by simp [jo] at hc
  | cons x l => exact sm_app (h x (List.mem_cons_self ..)) (sm_joT hs fun y hy => h y (List.mem_cons_of_mem _ hy))
theorem sm_shL {q : Requirement} (h : validR q = true) : sm (shL q) := by
  have hk := sm_wd (key_wd (validR_spec h).1).2
  have hv : sm (shV q.Values) := sm_jo (by unfold sm; decide) fun x hx => by obtain ⟨v, hv, rfl⟩ := List.mem_map.1 hx; exact sm_wd (val_wd (validR_vals h v hv))
  unfold shL
  split
  · exact sm_app (sm_app (sm_app hk (by unfold sm; decide)) hv) (by unfold sm; decide)
  split
  · exact sm_app (sm_app (sm_app hk (by unfold sm; decide)) hv) (by unfold sm; decide)
  split
  · exact sm_app (a := [33]) (by unfold sm; decide) hk
  · exact hk
theorem sm_shS {s : List Requirement} (h : ∀ q ∈ s, validR q = true) : sm (shS s) :=
  sm_jo (by unfold sm; decide) fun x hx => by obtain ⟨q, hq, rfl⟩ := List.mem_map.1 hx; exact sm_shL (h q hq)
theorem F47_l2_t (a : List ByteArray) : ∀ (n i : Nat), a.length = i + n → F47_l2 a (a.drop i) i = some (.inr ())
  | 0, i, h => by rw [List.drop_of_length_le (by omega), F47_l2]
  | n + 1, i, h => by
    have hlt : i < a.length := by omega
    rw [List.drop_eq_getElem_cons hlt, F47_l2, rdI_at hlt, Option.bind_some, if_neg (by simp), F47_l2_t a n (i + 1) (by omega)]
theorem F47_t {a : List ByteArray} (h : a.length ≤ 4294967290) : F47 a a = some true := by
  unfold F47
  have := F47_l2_t a a.length 0 (by simp)
  rw [List.drop_zero] at this
  rw [if_neg (by simp), ck_t ⟨by omega, h⟩, Option.bind_some, this]; rfl
theorem F26_l2_t (a : List Requirement) (ha : ∀ q ∈ a, q.Values.length ≤ 4294967290) : ∀ (n i : Nat), a.length = i + n → F26_l2 a (a.drop i) i = some (.inr ())
  | 0, i, h => by rw [List.drop_of_length_le (by omega), F26_l2]
  | n + 1, i, h => by
    have hlt : i < a.length := by omega
    rw [List.drop_eq_getElem_cons hlt, F26_l2, rdI_at hlt, Option.bind_some, if_neg (by simp), if_neg (by simp), F47_t (ha _ (List.getElem_mem hlt)), Option.bind_some, Option.bind_some, if_neg (by decide), F26_l2_t a ha n (i + 1) (by omega)]
theorem F26_t {a : List Requirement} (h : a.length ≤ 4294967290) (ha : ∀ q ∈ a, q.Values.length ≤ 4294967290) : F26 a a = some true := by
  unfold F26
  have := F26_l2_t a ha a.length 0 (by simp)
  rw [List.drop_zero] at this
  rw [if_neg (by simp), ck_t ⟨by omega, h⟩, Option.bind_some, this]; rfl
theorem mat1 (q : Requirement) (l : List Label) (hq : q.Values.length ≤ 100) (hl : l.length ≤ 40) : F22 [q] l = some (holdsR q l) := by
  rw [F22_t [q] l (by simp) (by omega) (fun r hr => by simp at hr; subst hr; omega)]
  simp [matL]
theorem F8_l12_t (l : List Label) (hl : l.length ≤ 40) : ∀ (s : List Requirement) (i : Nat), (∀ q ∈ s, q.Values.length ≤ 100) → F8_l12 l s i = some (.inr ())
  | [], i, _ => by rw [F8_l12]
  | q :: s, i, h => by
    have hq := h q (List.mem_cons_self ..)
    have IH := F8_l12_t l hl s (i + 1) fun x hx => h x (List.mem_cons_of_mem _ hx)
    have hm : ∀ (op : Int), F22 [(⟨q.Key, op, q.Values⟩ : Requirement)] l = some (holdsR ⟨q.Key, op, q.Values⟩ l) := fun op => mat1 _ l hq hl
    rw [F8_l12]
    simp only [mat1 q l hq hl, hm]
    by_cases g1 : q.Op = 1
    · simp only [g1, if_true, Option.bind_some, holdsR, show ¬ (2 : Int) = 1 by decide, if_false, IH]
      cases (getL l q.Key).2 <;> cases (q.Values.any fun x => decide (x = (getL l q.Key).1)) <;> rfl
    by_cases g2 : q.Op = 2
    · simp only [g2, show ¬ (2 : Int) = 1 by decide, if_true, if_false, Option.bind_some, holdsR, IH]
      cases (getL l q.Key).2 <;> cases (q.Values.any fun x => decide (x = (getL l q.Key).1)) <;> rfl
    by_cases g3 : q.Op = 3
    · simp only [g3, show ¬ (3 : Int) = 1 by decide, show ¬ (3 : Int) = 2 by decide, show ¬ (4 : Int) = 1 by decide, show ¬ (4 : Int) = 2 by decide, show ¬ (4 : Int) = 3 by decide, if_true, if_false, Option.bind_some, holdsR, IH]
      cases (getL l q.Key).2 <;> rfl
    by_cases g4 : q.Op = 4
    · simp only [g4, show ¬ (3 : Int) = 1 by decide, show ¬ (3 : Int) = 2 by decide, show ¬ (4 : Int) = 1 by decide, show ¬ (4 : Int) = 2 by decide, show ¬ (4 : Int) = 3 by decide, if_true, if_false, Option.bind_some, holdsR, IH]
      cases (getL l q.Key).2 <;> rfl
    · simp only [g1, g2, g3, g4, if_false, holdsR, Option.bind_some, Bool.false_eq_true, IH]
      rfl
theorem valid_all {s : List Requirement} (h : validS s = true) : ∀ q ∈ s, validR q = true := by
  simp only [validS, Bool.and_eq_true, List.all_eq_true] at h; exact h.2
theorem print_ok {s : List Requirement} (h : (printL s).2 = 0) : validS s = true ∧ (shS s).length ≤ 20000 ∧ (printL s).1 = lb (shS s) := by
  unfold printL at h ⊢
  split at h
  · rename_i hv
    split at h
    · simp at h
    · rename_i hl
      rw [if_pos hv, if_neg hl]
      exact ⟨hv, by omega, rfl⟩
  · simp at h
theorem LabelRoundTrip_pure : LabelRoundTrip.Pure := by
  intro s l _ _ _
  unfold F8
  simp only [F11_t, F12_t, Option.bind_some]
  cases h : small l s
  · rfl
  have h1 := small_l h
  have h2 := small_s h
  have hv : ∀ q ∈ s, q.Values.length ≤ 100 := fun q hq => (small_v h hq).2.1
  simp only [nb_not, Bool.not_true, Bool.false_eq_true, if_false]
  rw [F27_t (small_sq h) (by omega), Option.bind_some, ck_t ⟨by omega, by omega⟩, Option.bind_some, F8_l12_t l h1 s 0 hv]
  by_cases hp : (printL s).2 = 0
  · obtain ⟨g1, g2, g3⟩ := print_ok hp
    rw [if_pos hp, g3, F24_t _ (fun _ => by rw [bl_lb]; exact sm_shS (valid_all g1)), Option.bind_some, parse_text g1 (tok_shS (valid_all g1)) g2]
    simp only
    rw [if_neg (by simp), F26_t (by omega) fun q hq => by have := hv q hq; omega]
    rfl
  · rw [if_neg hp]; rfl
end Go.Proofs.Ytadhmlfnfgpjjaa
