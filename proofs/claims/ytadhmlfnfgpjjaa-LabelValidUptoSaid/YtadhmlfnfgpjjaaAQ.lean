/- The plain law. -/
import Derived.Test.YtadhmlfnfgpjjaaAP
import Derived.Test.YtadhmlfnfgpjjaaFP
import Derived.KernelRfl
set_option linter.unusedVariables false
set_option linter.unusedSimpArgs false
namespace Go.Proofs.Ytadhmlfnfgpjjaa
open Go Go.Fw
set_option maxRecDepth 1000000

theorem F12_t : F12 = some true := by kernel_rfl

set_option maxRecDepth 100000

def wbN (n : Int) : Bool := decide (97 ≤ n) && decide (n ≤ 122) || decide (48 ≤ n) && decide (n ≤ 57) || decide (n = 45) || decide (n = 46) || decide (n = 47)
def wb (c : UInt8) : Bool := wbN (c.toNat : Int)
theorem F51_t (n : Int) : F51 n = some (wbN n) := by
  unfold F51 wbN
  by_cases h1 : 97 ≤ n <;> by_cases h2 : n ≤ 122 <;> by_cases h3 : 48 ≤ n <;> by_cases h4 : n ≤ 57 <;> by_cases h5 : n = 45 <;> by_cases h6 : n = 46 <;> simp [*]
theorem F52_t (n : Int) : F52 n = some (wbN n) := F51_t n

theorem byI_at {b : ByteArray} {i : Nat} (h : i < (bl b).length) : byI b (i : Int) = some ((bl b)[i].toNat : Int) := by
  have hs : i < b.size := h
  unfold byI
  rw [if_pos (by omega)]
  simp [hs, bl, ByteArray.getElem_eq_getElem_data]
theorem size_bl (b : ByteArray) : b.size = (bl b).length := rfl

def keyL (l : List UInt8) : Bool := decide (1 ≤ l.length) && decide (l.length ≤ 40) && (match l with | [] => false | c :: _ => decide (97 ≤ c.toNat) && decide (c.toNat ≤ 122)) && l.all wb
def keyB (s : ByteArray) : Bool := keyL (bl s)
def valc (c : UInt8) : Bool := wb c && !decide (c.toNat = 47)
def valL (l : List UInt8) : Bool := decide (l.length ≤ 40) && l.all valc
def valB (s : ByteArray) : Bool := valL (bl s)

theorem F29_l8_t (s : ByteArray) (hs : (bl s).length ≤ 40) : ∀ (n i k : Nat), (bl s).length = i + n → n < k → F29_l8 s k (i : Int) = some (if ((bl s).drop i).all wb = true then .inr () else .inl false)
  | 0, i, k + 1, hl, _ => by
    rw [F29_l8, if_neg (by rw [size_bl]; omega), List.drop_of_length_le (by omega)]; rfl
  | n + 1, i, k + 1, hl, hk => by
    rw [F29_l8, if_pos (by rw [size_bl]; omega), byI_at (by omega), List.drop_eq_getElem_cons (by omega), List.all_cons]
    simp only [Option.bind_some, F51_t]
    have e1 : IntKind.i64.wrap ((i : Int) + 1) = ((i + 1 : Nat) : Int) := wrapN (by omega)
    rw [e1, F29_l8_t s hs n (i + 1) k (by omega) (by omega)]
    show (if nb (wb (bl s)[i]) = true then _ else _) = _
    cases hw : wb (bl s)[i] <;> simp [nb_not]
theorem F29_t (s : ByteArray) : F29 s = some (keyB s) := by
  unfold F29 keyB keyL
  by_cases h0 : s = ⟨#[]⟩
  · subst h0; rfl
  rw [if_neg h0]
  have hne : bl s ≠ [] := fun e => h0 (by rw [← lb_bl s, e]; rfl)
  by_cases h1 : 40 < (s.size : Int)
  · rw [if_pos h1]
    have : ¬ (bl s).length ≤ 40 := by rw [size_bl] at h1; omega
    simp [this]
  rw [if_neg h1]
  rw [size_bl] at h1
  match hb : bl s with
  | [] => exact (hne hb).elim
  | c :: r =>
    have hl : (bl s).length = r.length + 1 := by rw [hb]; rfl
    have hc : byI s 0 = some (c.toNat : Int) := by
      have := byI_at (b := s) (i := 0) (by omega)
      rw [show ((0 : Nat) : Int) = 0 from rfl] at this
      rw [this]; simp [hb]
    rw [hc]
    have h8 := F29_l8_t s (by omega) (bl s).length 0 1099511627776 (by omega) (by omega)
    rw [show ((0 : Nat) : Int) = 0 from rfl, List.drop_zero, hb] at h8
    simp only [Option.bind_some, h8]
    have hr : r.length ≤ 39 := by omega
    by_cases g1 : (c.toNat : Int) < 97
    · have : ¬ 97 ≤ c.toNat := by omega
      simp [g1, this]
    · have a1 : 97 ≤ c.toNat := by omega
      by_cases g2 : 122 < (c.toNat : Int)
      · have : ¬ c.toNat ≤ 122 := by omega
        simp [g1, g2, this]
      · have a2 : c.toNat ≤ 122 := by omega
        simp only [g1, g2, if_false, Option.bind_some, decide_false, Bool.false_eq_true, List.length_cons]
        cases hw : (c :: r).all wb <;> simp [a1, a2, hr]
theorem F31_l8_e (s : ByteArray) : ∀ (k : Nat) (i : Int), F31_l8 s k i = F29_l8 s k i
  | 0, i => by rw [F31_l8, F29_l8]
  | k + 1, i => by rw [F31_l8, F29_l8]; simp only [F31_l8_e s k, F51_t, F52_t]
theorem F31_eq (s : ByteArray) : F31 s = F29 s := by
  unfold F31 F29
  rw [F31_l8_e]
  have e : ((s.size : Int) < 1) ↔ s = ⟨#[]⟩ := by
    constructor
    · intro h
      have : bl s = [] := List.length_eq_zero_iff.1 (by rw [← size_bl]; omega)
      rw [← lb_bl s, this]; rfl
    · intro h; subst h; decide
  by_cases h : s = ⟨#[]⟩
  · rw [if_pos h, if_pos (e.2 h)] <;> rfl
  · rw [if_neg h, if_neg fun h' => h (e.1 h')] <;> rfl
theorem F31_t (s : ByteArray) : F31 s = some (keyB s) := (F31_eq s).trans (F29_t s)

theorem F30_l2_t (s : ByteArray) (hs : (bl s).length ≤ 40) : ∀ (n i k : Nat), (bl s).length = i + n → n < k → F30_l2 s k (i : Int) = some (if ((bl s).drop i).all valc = true then .inr () else .inl false)
  | 0, i, k + 1, hl, _ => by
    rw [F30_l2, if_neg (by rw [size_bl]; omega), List.drop_of_length_le (by omega)]; rfl
  | n + 1, i, k + 1, hl, hk => by
    rw [F30_l2, if_pos (by rw [size_bl]; omega), byI_at (by omega), List.drop_eq_getElem_cons (by omega), List.all_cons]
    simp only [Option.bind_some, F51_t]
    have e1 : IntKind.i64.wrap ((i : Int) + 1) = ((i + 1 : Nat) : Int) := wrapN (by omega)
    rw [e1, F30_l2_t s hs n (i + 1) k (by omega) (by omega)]
    show ((if nb (wb (bl s)[i]) = true then some true else some (decide (((bl s)[i].toNat : Int) = 47))).bind _) = _
    rw [show valc (bl s)[i] = (wb (bl s)[i] && !decide ((bl s)[i].toNat = 47)) from rfl]
    have e2 : (((bl s)[i].toNat : Int) = 47) ↔ ((bl s)[i].toNat = 47) := by omega
    cases hw : wb (bl s)[i] <;> by_cases h47 : (bl s)[i].toNat = 47 <;> simp [nb_not, e2, h47]
theorem F30_t (s : ByteArray) : F30 s = some (valB s) := by
  unfold F30 valB valL
  by_cases h1 : 40 < (s.size : Int)
  · rw [if_pos h1]
    have : ¬ (bl s).length ≤ 40 := by rw [size_bl] at h1; omega
    simp [this]
  rw [if_neg h1]
  rw [size_bl] at h1
  have h8 := F30_l2_t s (by omega) (bl s).length 0 1099511627776 (by omega) (by omega)
  rw [show ((0 : Nat) : Int) = 0 from rfl, List.drop_zero] at h8
  rw [h8]
  have a : (bl s).length ≤ 40 := by omega
  cases hw : (bl s).all valc <;> simp [a]
theorem F32_l2_e (s : ByteArray) : ∀ (k : Nat) (i : Int), F32_l2 s k i = F30_l2 s k i
  | 0, i => by rw [F32_l2, F30_l2]
  | k + 1, i => by rw [F32_l2, F30_l2]; simp only [F32_l2_e s k, F51_t, F52_t]
theorem F32_t (s : ByteArray) : F32 s = some (valB s) := by
  rw [← F30_t]; unfold F32 F30; rw [F32_l2_e] <;> rfl
open Go Go.Fw
set_option maxRecDepth 100000

def lbS (x : Label) : Bool := decide (x.Key.size ≤ 100) && decide (x.Value.size ≤ 100)
def rqS (x : Requirement) : Bool := decide (x.Key.size ≤ 100) && decide (x.Values.length ≤ 100) && x.Values.all fun v => decide (v.size ≤ 100)
theorem F11_l4_t : ∀ (l : List Label) (i : Nat), F11_l4 l i = some (if l.all lbS = true then .inr () else .inl false)
  | [], i => rfl
  | x :: l, i => by
    rw [F11_l4, F11_l4_t l (i + 1), List.all_cons]
    by_cases h1 : x.Key.size ≤ 100 <;> by_cases h2 : x.Value.size ≤ 100
    all_goals
      have e1 : (100 < (x.Key.size : Int)) ↔ ¬ x.Key.size ≤ 100 := by omega
      have e2 : (100 < (x.Value.size : Int)) ↔ ¬ x.Value.size ≤ 100 := by omega
      simp only [e1, e2, h1, h2, lbS, not_true_eq_false, not_false_eq_true, if_true, if_false, Option.bind_some, decide_true, decide_false, Bool.and_true, Bool.true_and, Bool.and_false, Bool.false_and, Bool.false_eq_true, Option.map_some]
theorem F11_l15_t : ∀ (l : List ByteArray) (i : Nat), F11_l15 l i = some (if (l.all fun v => decide (v.size ≤ 100)) = true then .inr () else .inl (.inl false))
  | [], i => rfl
  | x :: l, i => by
    rw [F11_l15, F11_l15_t l (i + 1), List.all_cons]
    have e1 : (100 < (x.size : Int)) ↔ ¬ x.size ≤ 100 := by omega
    by_cases h1 : x.size ≤ 100 <;> simp [e1, h1]
theorem F11_l10_t : ∀ (l : List Requirement) (i : Nat), F11_l10 l i = some (if l.all rqS = true then .inr () else .inl false)
  | [], i => rfl
  | x :: l, i => by
    rw [F11_l10, F11_l10_t l (i + 1), List.all_cons]
    have e1 : (100 < (x.Key.size : Int)) ↔ ¬ x.Key.size ≤ 100 := by omega
    have e2 : (100 < (x.Values.length : Int)) ↔ ¬ x.Values.length ≤ 100 := by omega
    by_cases h1 : x.Key.size ≤ 100
    · by_cases h2 : x.Values.length ≤ 100
      · rw [if_neg (fun h => e1.1 h h1)]
        rw [ck_t (by omega)]
        simp only [Option.bind_some, F11_l15_t, e2, h2, not_true_eq_false, decide_false, Bool.false_eq_true, if_false, rqS, h1, decide_true, Bool.true_and]
        cases hv : x.Values.all fun v => decide (v.size ≤ 100) <;> simp [hv]
      · simp [e1, e2, h1, h2, rqS]
    · simp [e1, h1, rqS]
def small (l : List Label) (s : List Requirement) : Bool := decide (l.length ≤ 40) && decide (s.length ≤ 40) && (l.all lbS && s.all rqS)
theorem F11_t (l : List Label) (s : List Requirement) : F11 l s = some (small l s) := by
  unfold F11 small
  have e1 : (40 < (l.length : Int)) ↔ ¬ l.length ≤ 40 := by omega
  have e2 : (40 < (s.length : Int)) ↔ ¬ s.length ≤ 40 := by omega
  by_cases h1 : l.length ≤ 40
  · by_cases h2 : s.length ≤ 40
    · rw [if_neg (fun h => e1.1 h h1), ck_t (by omega), ck_t (by omega)]
      simp only [Option.bind_some, F11_l4_t, F11_l10_t, e2, h2, not_true_eq_false, decide_false, Bool.false_eq_true, if_false, h1, decide_true, Bool.true_and]
      cases hv : l.all lbS <;> cases hw : s.all rqS <;> simp
    · simp [e1, e2, h1, h2]
  · simp [e1, h1]

def adj {α : Type} (f : α → ByteArray) (p : α → Bool) : Option ByteArray → List α → Bool
  | _, [] => true
  | q, x :: r => p x && (match q with | none => true | some y => decide (lt y (f x))) && adj f p (some (f x)) r
def prev {α : Type} (f : α → ByteArray) (l : List α) : Nat → Option ByteArray
  | 0 => none
  | n + 1 => (l[n]?).map f
def pl (x : Label) : Bool := keyB x.Key && valB x.Value
theorem F13_l2_t (s : List Label) (hs : s.length ≤ 40) : ∀ (n i : Nat), s.length = i + n → F13_l2 s (s.drop i) i = some (if adj (·.Key) pl (prev (·.Key) s i) (s.drop i) = true then .inr () else .inl false)
  | 0, i, hl => by
    rw [List.drop_of_length_le (by omega)]; rfl
  | n + 1, i, hl => by
    rw [List.drop_eq_getElem_cons (by omega), F13_l2, F13_l2_t s hs n (i + 1) (by omega)]
    have hp : prev (·.Key) s (i + 1) = some s[i].Key := by simp [prev, List.getElem?_eq_getElem (show i < s.length by omega)]
    rw [hp]
    simp only [F29_t, F30_t, Option.bind_some, adj, nb_not, pl]
    cases i with
    | zero =>
      by_cases hk : keyB s[0].Key = true <;> by_cases hv : valB s[0].Value = true <;> simp [prev, hk, hv]
    | succ i =>
      have e2 : IntKind.i64.wrap (((i + 1 : Nat) : Int) - 1) = (i : Int) := by rw [wrapI (by omega) (by omega)]; omega
      have hp2 : prev (·.Key) s (i + 1) = some s[i].Key := by simp [prev, List.getElem?_eq_getElem (show i < s.length by omega)]
      have h0 : 0 < ((i + 1 : Nat) : Int) := by omega
      simp only [e2, rdI_at (show i < s.length by omega), hp2, h0, if_true, Option.bind_some, bl_le]
      by_cases hk : keyB s[i + 1].Key = true <;> by_cases hv : valB s[i + 1].Value = true <;> by_cases hlt : lt s[i].Key s[i + 1].Key <;> simp [hlt, hk, hv]
theorem F14_l2_e (s : List Label) : ∀ (l : List Label) (i : Nat), F14_l2 s l i = F13_l2 s l i
  | [], i => rfl
  | x :: l, i => by
    rw [F14_l2, F13_l2]
    simp only [F14_l2_e s l, F31_t, F29_t, F32_t, F30_t, nb_bl, bl_le]
def validL (l : List Label) : Bool := decide (l.length ≤ 16) && adj (·.Key) pl none l
theorem F13_t (l : List Label) : F13 l = some (validL l) := by
  unfold F13 validL
  have e1 : (16 < (l.length : Int)) ↔ ¬ l.length ≤ 16 := by omega
  by_cases h1 : l.length ≤ 16
  · have := F13_l2_t l (by omega) l.length 0 (by omega)
    rw [List.drop_zero] at this
    rw [if_neg (fun h => e1.1 h h1), ck_t (by omega), Option.bind_some, this]
    simp only [h1, decide_true, Bool.true_and]
    show _ = some (adj (fun x : Label => x.Key) pl (prev (fun x : Label => x.Key) l 0) l)
    cases adj (fun x : Label => x.Key) pl (prev (fun x : Label => x.Key) l 0) l <;> rfl
  · simp [e1, h1]
theorem F14_t (l : List Label) : F14 l = some (validL l) := by
  rw [← F13_t]; unfold F14 F13; simp only [F14_l2_e] <;> rfl

theorem F35_l11_t (r : Requirement) (hs : r.Values.length ≤ 64) : ∀ (n i : Nat), r.Values.length = i + n → F35_l11 r (r.Values.drop i) i = some (if adj id valB (prev id r.Values i) (r.Values.drop i) = true then .inr () else .inl false)
  | 0, i, hl => by
    rw [List.drop_of_length_le (by omega)]; rfl
  | n + 1, i, hl => by
    rw [List.drop_eq_getElem_cons (by omega), F35_l11, F35_l11_t r hs n (i + 1) (by omega)]
    have hp : prev id r.Values (i + 1) = some r.Values[i] := by simp [prev, List.getElem?_eq_getElem (show i < r.Values.length by omega)]
    rw [hp]
    simp only [F30_t, Option.bind_some, adj, nb_not, id]
    cases i with
    | zero => by_cases hv : valB r.Values[0] = true <;> simp [prev, hv]
    | succ i =>
      have e2 : IntKind.i64.wrap (((i + 1 : Nat) : Int) - 1) = (i : Int) := by rw [wrapI (by omega) (by omega)]; omega
      have hp2 : prev id r.Values (i + 1) = some r.Values[i] := by simp [prev, List.getElem?_eq_getElem (show i < r.Values.length by omega)]
      have h0 : 0 < ((i + 1 : Nat) : Int) := by omega
      simp only [e2, rdI_at (show i < r.Values.length by omega), hp2, h0, if_true, Option.bind_some, bl_le]
      by_cases hv : valB r.Values[i + 1] = true <;> by_cases hlt : lt r.Values[i] r.Values[i + 1] <;> simp [hlt, hv]
theorem F36_l12_e (r : Requirement) : ∀ (l : List ByteArray) (i : Nat), F36_l12 r l i = F35_l11 r l i
  | [], i => rfl
  | x :: l, i => by
    rw [F36_l12, F35_l11]
    simp only [F36_l12_e r l, F32_t, F30_t, nb_bl, bl_le]
def validR (r : Requirement) : Bool :=
  keyB r.Key && (if r.Op = 3 ∨ r.Op = 4 then decide (r.Values.length = 0) else decide (r.Op = 1 ∨ r.Op = 2) && (decide (1 ≤ r.Values.length) && decide (r.Values.length ≤ 64) && adj id valB none r.Values))
theorem vals_t (r : Requirement) : ((if (r.Values.length : Int) < 1 then some true else some (decide (64 < (r.Values.length : Int)))).bind fun o8 => (if o8 = true then some false else (((ck (0 ≤ r.Values.length ∧ r.Values.length ≤ 4294967290)).bind fun u19 => F35_l11 r r.Values 0).bind fun o11 => match o11 with | Sum.inl f => some f | Sum.inr po11 => some true) : Option Bool)) = some (decide (1 ≤ r.Values.length) && decide (r.Values.length ≤ 64) && adj id valB none r.Values) := by
  have e1 : ((r.Values.length : Int) < 1) ↔ ¬ 1 ≤ r.Values.length := by omega
  have e2 : (64 < (r.Values.length : Int)) ↔ ¬ r.Values.length ≤ 64 := by omega
  by_cases h1 : 1 ≤ r.Values.length
  · by_cases h2 : r.Values.length ≤ 64
    · have := F35_l11_t r h2 r.Values.length 0 (by omega)
      rw [List.drop_zero] at this
      rw [if_neg (fun h => e1.1 h h1), ck_t (by omega), Option.bind_some, Option.bind_some, this]
      simp only [h1, h2, e2, decide_true, Bool.true_and, not_true_eq_false, decide_false, Bool.false_eq_true, if_false]
      show _ = some (adj id valB (prev id r.Values 0) r.Values)
      cases adj id valB (prev id r.Values 0) r.Values <;> rfl
    · simp [e1, e2, h1, h2]
  · simp [e1, h1]
theorem F35_t (r : Requirement) : F35 r = some (validR r) := by
  unfold F35 validR
  simp only [F29_t, Option.bind_some, nb_not]
  cases hk : keyB r.Key
  · rfl
  simp only [Bool.not_true, Bool.false_eq_true, if_false, Bool.true_and]
  unfold F54
  by_cases h3 : r.Op = 3
  · simp [h3]
  by_cases h4 : r.Op = 4
  · simp [h4]
  by_cases h1 : r.Op = 1
  · simp only [h1, if_true, Option.bind_some, Bool.not_true, Bool.false_eq_true, if_false]
    refine (vals_t r).trans ?_; simp
  by_cases h2 : r.Op = 2
  · simp only [h2, decide_true, if_true, Option.bind_some, Bool.not_true, Bool.false_eq_true, if_false, show ¬ ((2 : Int) = 1) from by omega]
    refine (vals_t r).trans ?_; simp
  simp [h1, h2, h3, h4]
theorem F36_t (r : Requirement) : F36 r = some (validR r) := by
  unfold F36 validR
  simp only [F31_t, Option.bind_some, nb_not, F36_l12_e]
  cases hk : keyB r.Key
  · rfl
  simp only [Bool.not_true, Bool.false_eq_true, if_false, Bool.true_and]
  by_cases h3 : r.Op = 3
  · simp [h3]
  by_cases h4 : r.Op = 4
  · simp [h4]
  by_cases h1 : r.Op = 1
  · simp only [h1, if_true, Option.bind_some, not_true_eq_false, if_false, show ¬ ((1 : Int) = 3) from by omega, show ¬ ((1 : Int) = 4) from by omega, decide_false, Bool.false_eq_true]
    refine (vals_t r).trans ?_; simp
  by_cases h2 : r.Op = 2
  · simp only [h2, if_true, Option.bind_some, not_true_eq_false, not_false_eq_true, if_false, show ¬ ((2 : Int) = 3) from by omega, show ¬ ((2 : Int) = 4) from by omega, show ¬ ((2 : Int) = 1) from by omega, decide_false, Bool.false_eq_true]
    refine (vals_t r).trans ?_; simp
  simp [h1, h2, h3, h4]
theorem F53_l1_t : ∀ (l : List Requirement) (i : Nat), ∃ r, F53_l1 l i = some r ∧ (l.all validR = true → r = .inr ()) ∧ (l.all validR = false → ∃ j : Nat, r = .inl (j : Int))
  | [], i => ⟨_, rfl, fun _ => rfl, fun h => by simp at h⟩
  | x :: l, i => by
    rw [F53_l1, List.all_cons]
    unfold F34
    simp only [F35_t, Option.bind_some, nb_not]
    cases hv : validR x
    · exact ⟨_, rfl, fun h => by simp at h, fun _ => ⟨i, rfl⟩⟩
    · simpa using F53_l1_t l (i + 1)
def validS (s : List Requirement) : Bool := decide (s.length ≤ 16) && s.all validR
theorem F15_t (s : List Requirement) : F15 s = some (validS s) := by
  unfold F15 validS
  by_cases h : s.length ≤ 16
  · have e : (s.length : Int) ≤ 16 := by omega
    rw [if_pos e]
    unfold F33 F53
    obtain ⟨r, h1, h2, h3⟩ := F53_l1_t s 0
    rw [ck_t (by omega), Option.bind_some, h1]
    cases hv : s.all validR
    · obtain ⟨j, rfl⟩ := h3 hv
      simp [h, nb_not]
    · rw [h2 hv]
      simp [h, nb_not]
  · have e : ¬ (s.length : Int) ≤ 16 := by omega
    simp [e, h]
theorem F16_l2_t : ∀ (l : List Requirement) (i : Nat), F16_l2 l i = some (if l.all validR = true then .inr () else .inl false)
  | [], i => rfl
  | x :: l, i => by
    rw [F16_l2, F16_l2_t l, List.all_cons]
    simp only [F36_t, Option.bind_some, nb_not]
    cases hv : validR x <;> simp
theorem F16_t (s : List Requirement) : F16 s = some (validS s) := by
  unfold F16 validS
  by_cases h : s.length ≤ 16
  · have e : ¬ 16 < (s.length : Int) := by omega
    rw [if_neg e, ck_t (by omega), Option.bind_some, F16_l2_t]
    cases hv : s.all validR <;> simp [h]
  · have e : 16 < (s.length : Int) := by omega
    simp [e, h]
theorem LabelValid_pure : LabelValid.Pure := by
  intro l s _ _ _
  unfold F3
  simp only [F11_t, F13_t, F14_t, F15_t, F16_t, F12_t, Option.bind_some]
  cases small l s <;> cases validL l <;> cases validS s <;> rfl

open Go Go.Fw
set_option maxRecDepth 100000

open Go Go.Fw
set_option maxRecDepth 100000

open Go Go.Fw
set_option maxRecDepth 100000

open Go Go.Fw
set_option maxRecDepth 100000

open Go Go.Fw
set_option maxRecDepth 100000

end Go.Proofs.Ytadhmlfnfgpjjaa
