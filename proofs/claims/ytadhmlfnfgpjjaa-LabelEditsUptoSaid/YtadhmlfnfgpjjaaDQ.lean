/- The plain law. -/
import Derived.Test.YtadhmlfnfgpjjaaDP
import Derived.Test.YtadhmlfnfgpjjaaFP
import Derived.KernelRfl
set_option linter.unusedVariables false
set_option linter.unusedSimpArgs false
namespace Go.Proofs.Ytadhmlfnfgpjjaa
open Go Go.Fw
set_option maxRecDepth 1000000

theorem F12_t : F12 = some true := by kernel_rfl

set_option maxRecDepth 100000

def wbN (n : Int) : Bool := decide (97 ≤ n) && decide (n ≤ 122) || decide (48 ≤ n) && decide (n ≤ 57) || decide (n = 45) || decide (n = 46) || decide (n = 47)
def wb (c : UInt8) : Bool := wbN (c.toNat : Int)
theorem F51_t (n : Int) : F51 n = some (wbN n) := by
  unfold F51 wbN
  by_cases h1 : 97 ≤ n <;> by_cases h2 : n ≤ 122 <;> by_cases h3 : 48 ≤ n <;> by_cases h4 : n ≤ 57 <;> by_cases h5 : n = 45 <;> by_cases h6 : n = 46 <;> simp [*]
theorem byI_at {b : ByteArray} {i : Nat} (h : i < (bl b).length) : byI b (i : Int) = some ((bl b)[i].toNat : Int) := by
  have hs : i < b.size := h
  unfold byI
  rw [if_pos (by omega)]
  simp [hs, bl, ByteArray.getElem_eq_getElem_data]
theorem size_bl (b : ByteArray) : b.size = (bl b).length := rfl

def keyL (l : List UInt8) : Bool := decide (1 ≤ l.length) && decide (l.length ≤ 40) && (match l with | [] => false | c :: _ => decide (97 ≤ c.toNat) && decide (c.toNat ≤ 122)) && l.all wb
def keyB (s : ByteArray) : Bool := keyL (bl s)
def valc (c : UInt8) : Bool := wb c && !decide (c.toNat = 47)
def valL (l : List UInt8) : Bool := decide (l.length ≤ 40) && l.all valc
def valB (s : ByteArray) : Bool := valL (bl s)

theorem F29_l8_t (s : ByteArray) (hs : (bl s).length ≤ 40) : ∀ (n i k : Nat), (bl s).length = i + n → n < k → F29_l8 s k (i : Int) = some (if ((bl s).drop i).all wb = true then .inr () else .inl false)
  | 0, i, k + 1, hl, _ => by
    rw [F29_l8, if_neg (by rw [size_bl]; omega), List.drop_of_length_le (by omega)]; rfl
  | n + 1, i, k + 1, hl, hk => by
    rw [F29_l8, if_pos (by rw [size_bl]; omega), byI_at (by omega), List.drop_eq_getElem_cons (by omega), List.all_cons]
    simp only [Option.bind_some, F51_t]
    have e1 : IntKind.i64.wrap ((i : Int) + 1) = ((i + 1 : Nat) : Int) := wrapN (by omega)
    rw [e1, F29_l8_t s hs n (i + 1) k (by omega) (by omega)]
    show (if nb (wb (bl s)[i]) = true then _ else _) = _
    cases hw : wb (bl s)[i] <;> simp [nb_not]
theorem F29_t (s : ByteArray) : F29 s = some (keyB s) := by
  unfold F29 keyB keyL
  by_cases h0 : s = ⟨#[]⟩
  · subst h0; rfl
  rw [if_neg h0]
  have hne : bl s ≠ [] := fun e => h0 (by rw [← lb_bl s, e]; rfl)
  by_cases h1 : 40 < (s.size : Int)
  · rw [if_pos h1]
    have : ¬ (bl s).length ≤ 40 := by rw [size_bl] at h1; omega
    simp [this]
  rw [if_neg h1]
  rw [size_bl] at h1
  match hb : bl s with
  | [] => exact (hne hb).elim
  | c :: r =>
    have hl : (bl s).length = r.length + 1 := by rw [hb]; rfl
    have hc : byI s 0 = some (c.toNat : Int) := by
      have := byI_at (b := s) (i := 0) (by omega)
      rw [show ((0 : Nat) : Int) = 0 from rfl] at this
      rw [this]; simp [hb]
    rw [hc]
    have h8 := F29_l8_t s (by omega) (bl s).length 0 1099511627776 (by omega) (by omega)
    rw [show ((0 : Nat) : Int) = 0 from rfl, List.drop_zero, hb] at h8
    simp only [Option.bind_some, h8]
    have hr : r.length ≤ 39 := by omega
    by_cases g1 : (c.toNat : Int) < 97
    · have : ¬ 97 ≤ c.toNat := by omega
      simp [g1, this]
    · have a1 : 97 ≤ c.toNat := by omega
      by_cases g2 : 122 < (c.toNat : Int)
      · have : ¬ c.toNat ≤ 122 := by omega
        simp [g1, g2, this]
      · have a2 : c.toNat ≤ 122 := by omega
        simp only [g1, g2, if_false, Option.bind_some, decide_false, Bool.false_eq_true, List.length_cons]
        cases hw : (c :: r).all wb <;> simp [a1, a2, hr]
theorem F30_l2_t (s : ByteArray) (hs : (bl s).length ≤ 40) : ∀ (n i k : Nat), (bl s).length = i + n → n < k → F30_l2 s k (i : Int) = some (if ((bl s).drop i).all valc = true then .inr () else .inl false)
  | 0, i, k + 1, hl, _ => by
    rw [F30_l2, if_neg (by rw [size_bl]; omega), List.drop_of_length_le (by omega)]; rfl
  | n + 1, i, k + 1, hl, hk => by
    rw [F30_l2, if_pos (by rw [size_bl]; omega), byI_at (by omega), List.drop_eq_getElem_cons (by omega), List.all_cons]
    simp only [Option.bind_some, F51_t]
    have e1 : IntKind.i64.wrap ((i : Int) + 1) = ((i + 1 : Nat) : Int) := wrapN (by omega)
    rw [e1, F30_l2_t s hs n (i + 1) k (by omega) (by omega)]
    show ((if nb (wb (bl s)[i]) = true then some true else some (decide (((bl s)[i].toNat : Int) = 47))).bind _) = _
    rw [show valc (bl s)[i] = (wb (bl s)[i] && !decide ((bl s)[i].toNat = 47)) from rfl]
    have e2 : (((bl s)[i].toNat : Int) = 47) ↔ ((bl s)[i].toNat = 47) := by omega
    cases hw : wb (bl s)[i] <;> by_cases h47 : (bl s)[i].toNat = 47 <;> simp [nb_not, e2, h47]
theorem F30_t (s : ByteArray) : F30 s = some (valB s) := by
  unfold F30 valB valL
  by_cases h1 : 40 < (s.size : Int)
  · rw [if_pos h1]
    have : ¬ (bl s).length ≤ 40 := by rw [size_bl] at h1; omega
    simp [this]
  rw [if_neg h1]
  rw [size_bl] at h1
  have h8 := F30_l2_t s (by omega) (bl s).length 0 1099511627776 (by omega) (by omega)
  rw [show ((0 : Nat) : Int) = 0 from rfl, List.drop_zero] at h8
  rw [h8]
  have a : (bl s).length ≤ 40 := by omega
  cases hw : (bl s).all valc <;> simp [a]
open Go Go.Fw
set_option maxRecDepth 100000

def lbS (x : Label) : Bool := decide (x.Key.size ≤ 100) && decide (x.Value.size ≤ 100)
def rqS (x : Requirement) : Bool := decide (x.Key.size ≤ 100) && decide (x.Values.length ≤ 100) && x.Values.all fun v => decide (v.size ≤ 100)
theorem F11_l4_t : ∀ (l : List Label) (i : Nat), F11_l4 l i = some (if l.all lbS = true then .inr () else .inl false)
  | [], i => rfl
  | x :: l, i => by
    rw [F11_l4, F11_l4_t l (i + 1), List.all_cons]
    by_cases h1 : x.Key.size ≤ 100 <;> by_cases h2 : x.Value.size ≤ 100
    all_goals
      have e1 : (100 < (x.Key.size : Int)) ↔ ¬ x.Key.size ≤ 100 := by omega
      have e2 : (100 < (x.Value.size : Int)) ↔ ¬ x.Value.size ≤ 100 := by omega
      simp only [e1, e2, h1, h2, lbS, not_true_eq_false, not_false_eq_true, if_true, if_false, Option.bind_some, decide_true, decide_false, Bool.and_true, Bool.true_and, Bool.and_false, Bool.false_and, Bool.false_eq_true, Option.map_some]
theorem F11_l15_t : ∀ (l : List ByteArray) (i : Nat), F11_l15 l i = some (if (l.all fun v => decide (v.size ≤ 100)) = true then .inr () else .inl (.inl false))
  | [], i => rfl
  | x :: l, i => by
    rw [F11_l15, F11_l15_t l (i + 1), List.all_cons]
    have e1 : (100 < (x.size : Int)) ↔ ¬ x.size ≤ 100 := by omega
    by_cases h1 : x.size ≤ 100 <;> simp [e1, h1]
theorem F11_l10_t : ∀ (l : List Requirement) (i : Nat), F11_l10 l i = some (if l.all rqS = true then .inr () else .inl false)
  | [], i => rfl
  | x :: l, i => by
    rw [F11_l10, F11_l10_t l (i + 1), List.all_cons]
    have e1 : (100 < (x.Key.size : Int)) ↔ ¬ x.Key.size ≤ 100 := by omega
    have e2 : (100 < (x.Values.length : Int)) ↔ ¬ x.Values.length ≤ 100 := by omega
    by_cases h1 : x.Key.size ≤ 100
    · by_cases h2 : x.Values.length ≤ 100
      · rw [if_neg (fun h => e1.1 h h1)]
        rw [ck_t (by omega)]
        simp only [Option.bind_some, F11_l15_t, e2, h2, not_true_eq_false, decide_false, Bool.false_eq_true, if_false, rqS, h1, decide_true, Bool.true_and]
        cases hv : x.Values.all fun v => decide (v.size ≤ 100) <;> simp [hv]
      · simp [e1, e2, h1, h2, rqS]
    · simp [e1, h1, rqS]
def small (l : List Label) (s : List Requirement) : Bool := decide (l.length ≤ 40) && decide (s.length ≤ 40) && (l.all lbS && s.all rqS)
theorem F11_t (l : List Label) (s : List Requirement) : F11 l s = some (small l s) := by
  unfold F11 small
  have e1 : (40 < (l.length : Int)) ↔ ¬ l.length ≤ 40 := by omega
  have e2 : (40 < (s.length : Int)) ↔ ¬ s.length ≤ 40 := by omega
  by_cases h1 : l.length ≤ 40
  · by_cases h2 : s.length ≤ 40
    · rw [if_neg (fun h => e1.1 h h1), ck_t (by omega), ck_t (by omega)]
      simp only [Option.bind_some, F11_l4_t, F11_l10_t, e2, h2, not_true_eq_false, decide_false, Bool.false_eq_true, if_false, h1, decide_true, Bool.true_and]
      cases hv : l.all lbS <;> cases hw : s.all rqS <;> simp
    · simp [e1, e2, h1, h2]
  · simp [e1, h1]

def adj {α : Type} (f : α → ByteArray) (p : α → Bool) : Option ByteArray → List α → Bool
  | _, [] => true
  | q, x :: r => p x && (match q with | none => true | some y => decide (lt y (f x))) && adj f p (some (f x)) r
def prev {α : Type} (f : α → ByteArray) (l : List α) : Nat → Option ByteArray
  | 0 => none
  | n + 1 => (l[n]?).map f
def pl (x : Label) : Bool := keyB x.Key && valB x.Value
theorem F13_l2_t (s : List Label) (hs : s.length ≤ 40) : ∀ (n i : Nat), s.length = i + n → F13_l2 s (s.drop i) i = some (if adj (·.Key) pl (prev (·.Key) s i) (s.drop i) = true then .inr () else .inl false)
  | 0, i, hl => by
    rw [List.drop_of_length_le (by omega)]; rfl
  | n + 1, i, hl => by
    rw [List.drop_eq_getElem_cons (by omega), F13_l2, F13_l2_t s hs n (i + 1) (by omega)]
    have hp : prev (·.Key) s (i + 1) = some s[i].Key := by simp [prev, List.getElem?_eq_getElem (show i < s.length by omega)]
    rw [hp]
    simp only [F29_t, F30_t, Option.bind_some, adj, nb_not, pl]
    cases i with
    | zero =>
      by_cases hk : keyB s[0].Key = true <;> by_cases hv : valB s[0].Value = true <;> simp [prev, hk, hv]
    | succ i =>
      have e2 : IntKind.i64.wrap (((i + 1 : Nat) : Int) - 1) = (i : Int) := by rw [wrapI (by omega) (by omega)]; omega
      have hp2 : prev (·.Key) s (i + 1) = some s[i].Key := by simp [prev, List.getElem?_eq_getElem (show i < s.length by omega)]
      have h0 : 0 < ((i + 1 : Nat) : Int) := by omega
      simp only [e2, rdI_at (show i < s.length by omega), hp2, h0, if_true, Option.bind_some, bl_le]
      by_cases hk : keyB s[i + 1].Key = true <;> by_cases hv : valB s[i + 1].Value = true <;> by_cases hlt : lt s[i].Key s[i + 1].Key <;> simp [hlt, hk, hv]
def validL (l : List Label) : Bool := decide (l.length ≤ 16) && adj (·.Key) pl none l
theorem F13_t (l : List Label) : F13 l = some (validL l) := by
  unfold F13 validL
  have e1 : (16 < (l.length : Int)) ↔ ¬ l.length ≤ 16 := by omega
  by_cases h1 : l.length ≤ 16
  · have := F13_l2_t l (by omega) l.length 0 (by omega)
    rw [List.drop_zero] at this
    rw [if_neg (fun h => e1.1 h h1), ck_t (by omega), Option.bind_some, this]
    simp only [h1, decide_true, Bool.true_and]
    show _ = some (adj (fun x : Label => x.Key) pl (prev (fun x : Label => x.Key) l 0) l)
    cases adj (fun x : Label => x.Key) pl (prev (fun x : Label => x.Key) l 0) l <;> rfl
  · simp [e1, h1]
def getL (l : List Label) (k : ByteArray) : ByteArray × Bool := match l.find? fun x => decide (x.Key = k) with | some x => (x.Value, true) | none => (⟨#[]⟩, false)
theorem F17_l1_t (k : ByteArray) : ∀ (l : List Label) (i : Nat), F17_l1 k l i = some (match l.find? fun x => decide (x.Key = k) with | some x => .inl (x.Value, true) | none => .inr ())
  | [], i => rfl
  | x :: l, i => by
    rw [F17_l1, F17_l1_t k l, List.find?_cons]
    by_cases h : x.Key = k <;> simp [h]
theorem F17_t (l : List Label) (k : ByteArray) (h : l.length ≤ 4294967290) : F17 l k = some (getL l k) := by
  unfold F17 getL
  rw [ck_t (by omega), Option.bind_some, F17_l1_t]
  cases l.find? fun x => decide (x.Key = k) <;> rfl
theorem small_l {l s} (h : small l s = true) : l.length ≤ 40 := by simp [small] at h; exact h.1.1
open Go Go.Fw
set_option maxRecDepth 100000

def ne (k : ByteArray) (x : Label) : Bool := !decide (x.Key = k)
def gt (k : ByteArray) (x : Label) : Bool := decide (lt k x.Key)
def insK (y : Label) : List Label → List Label
  | [] => [y]
  | x :: r => if lt y.Key x.Key then y :: x :: r else x :: insK y r
def withL (l : List Label) (k v : ByteArray) : List Label := insK ⟨k, v⟩ (l.filter (ne k))
theorem F20_l2_at (k : ByteArray) (n : Nat) : ∀ (l : List Label) (i : Nat) (o : List Label), o.length + l.length ≤ 1000 → F20_l2 k l i o (n : Int) = some (o ++ l.filter (ne k), (n : Int))
  | [], i, o, _ => by simp [F20_l2]
  | x :: l, i, o, h => by
    simp only [List.length_cons] at h
    rw [F20_l2, List.filter_cons]
    by_cases hx : x.Key = k
    · rw [if_pos hx]
      simp only [Option.bind_some]
      rw [F20_l2_at k n l _ o (by omega)]
      simp [ne, hx]
    · rw [if_neg hx, if_neg (show ¬ (n : Int) < 0 by omega)]
      simp only [Option.bind_some, Bool.false_eq_true, if_false]
      rw [apI_t (by simp; omega)]
      simp only [Option.bind_some]
      rw [F20_l2_at k n l _ (o ++ [x]) (by simp; omega)]
      simp [ne, hx]
theorem F20_l2_t (k : ByteArray) : ∀ (l : List Label) (i : Nat) (o : List Label), o.length + l.length ≤ 1000 →
    F20_l2 k l i o (-1) = some (o ++ l.filter (ne k), match (l.filter (ne k)).findIdx? (gt k) with | none => -1 | some j => ((o.length + j : Nat) : Int))
  | [], i, o, _ => by simp [F20_l2]
  | x :: l, i, o, h => by
    simp only [List.length_cons] at h
    rw [F20_l2, List.filter_cons]
    by_cases hx : x.Key = k
    · rw [if_pos hx]
      simp only [Option.bind_some]
      rw [F20_l2_t k l _ o (by omega)]
      simp [ne, hx]
    · rw [if_neg hx, if_pos (show (-1 : Int) < 0 by omega)]
      have hn : ne k x = true := by simp [ne, hx]
      simp only [Option.bind_some, nb_le, hn, if_true]
      by_cases hg : lt k x.Key
      · simp only [hg, decide_true, if_true, Option.bind_some]
        rw [apI_t (by simp; omega)]
        simp only [Option.bind_some]
        rw [F20_l2_at k o.length l _ (o ++ [x]) (by simp; omega)]
        have : gt k x = true := by simp [gt, hg]
        simp [List.findIdx?_cons, this]
      · simp only [hg, decide_false, Bool.false_eq_true, if_false, Option.bind_some]
        rw [apI_t (by simp; omega)]
        simp only [Option.bind_some]
        rw [F20_l2_t k l _ (o ++ [x]) (by simp; omega)]
        have : gt k x = false := by simp [gt, hg]
        simp only [List.findIdx?_cons, this, Bool.false_eq_true, if_false, List.append_assoc, List.singleton_append]
        cases (l.filter (ne k)).findIdx? (gt k) with
        | none => simp
        | some j =>
          simp only [Option.map_some, List.length_append, List.length_singleton]
          rw [show o.length + 1 + j = o.length + (j + 1) by omega]
theorem insK_idx (y : Label) : ∀ r : List Label, insK y r = match r.findIdx? (gt y.Key) with | none => r ++ [y] | some j => r.take j ++ y :: r.drop j
  | [] => rfl
  | x :: r => by
    rw [insK, insK_idx y r, List.findIdx?_cons]
    by_cases h : lt y.Key x.Key
    · have hg : gt y.Key x = true := by simp [gt, h]
      rw [if_pos h, hg]; rfl
    · have hg : gt y.Key x = false := by simp [gt, h]
      rw [if_neg h, hg]
      cases hf : r.findIdx? (gt y.Key) with
      | none => simp
      | some j => simp
theorem F20_t (l : List Label) (k v : ByteArray) (h : l.length ≤ 500) : F20 l k v = some (withL l k v) := by
  unfold F20 withL
  have e1 : IntKind.i64.wrap ((l.length : Int) + 1) = ((l.length + 1 : Nat) : Int) := wrapN (by omega)
  have hfl : (l.filter (ne k)).length ≤ l.length := List.length_filter_le ..
  rw [e1]
  have hm : mkI ((⟨(⟨#[]⟩ : ByteArray), (⟨#[]⟩ : ByteArray)⟩ : Label)) 0 ((l.length + 1 : Nat) : Int) = some [] := by
    unfold mkI; rw [if_pos (by omega)]; rfl
  rw [hm, Option.bind_some, ck_t (by omega)]
  simp only [Option.bind_some]
  rw [F20_l2_t k l 0 [] (by simp; omega), insK_idx]
  simp only [Option.bind_some, List.nil_append, List.length_nil, Nat.zero_add]
  cases hf : (l.filter (ne k)).findIdx? (gt k) with
  | none =>
    simp only [show (-1 : Int) < 0 from by omega, if_true, Option.bind_some]
    unfold insI; rw [if_pos (by omega)]
    simp
  | some j =>
    have hj : j < (l.filter (ne k)).length := by
      have := List.findIdx?_eq_some_iff_getElem.1 hf
      exact this.1
    simp only [show ¬ ((j : Nat) : Int) < 0 from by omega, if_false, Option.bind_some]
    unfold insI; rw [if_pos (by omega)]
    simp
theorem F19_l2_t (a : List Label) : ∀ (n i : Nat), a.length = i + n → F19_l2 a (a.drop i) i = some (.inr ())
  | 0, i, h => by rw [List.drop_of_length_le (by omega)]; rfl
  | n + 1, i, h => by
    rw [List.drop_eq_getElem_cons (by omega), F19_l2, rdI_at (by omega), F19_l2_t a n (i + 1) (by omega)]
    simp
theorem F19_t (a : List Label) (h : a.length ≤ 4294967290) : F19 a a = some true := by
  unfold F19
  rw [if_neg (fun h => h rfl), ck_t (by omega), Option.bind_some]
  have := F19_l2_t a a.length 0 (by omega)
  rw [List.drop_zero] at this
  rw [this]; rfl
theorem insK_len (y : Label) : ∀ r : List Label, (insK y r).length = r.length + 1
  | [] => rfl
  | x :: r => by rw [insK]; split <;> simp [insK_len y r]
theorem withL_len (l : List Label) (k v : ByteArray) : (withL l k v).length ≤ l.length + 1 := by
  have hfl : (l.filter (ne k)).length ≤ l.length := List.length_filter_le ..
  rw [withL, insK_len]; omega
theorem insK_mem (y : Label) {x : Label} : ∀ r : List Label, x ∈ insK y r ↔ x = y ∨ x ∈ r
  | [] => by simp [insK]
  | z :: r => by
    rw [insK]; split
    · simp
    · rw [List.mem_cons, insK_mem y r, List.mem_cons]
      constructor
      · rintro (h | h | h)
        · exact .inr (.inl h)
        · exact .inl h
        · exact .inr (.inr h)
      · rintro (h | h | h)
        · exact .inr (.inl h)
        · exact .inl h
        · exact .inr (.inr h)
theorem insK_find {k : ByteArray} (y : Label) (hy : y.Key = k) : ∀ r : List Label, (∀ x ∈ r, x.Key ≠ k) → (insK y r).find? (fun x => decide (x.Key = k)) = some y
  | [], _ => by simp [insK, hy]
  | z :: r, h => by
    have hz := h z (List.mem_cons_self ..)
    rw [insK]; split
    · simp [hy]
    · rw [List.find?_cons, decide_eq_false hz]
      exact insK_find y hy r fun x hx => h x (List.mem_cons_of_mem _ hx)
theorem insK_find' {o : ByteArray} (y : Label) (hy : y.Key ≠ o) : ∀ r : List Label, (insK y r).find? (fun x => decide (x.Key = o)) = r.find? (fun x => decide (x.Key = o))
  | [] => by simp [insK, hy]
  | z :: r => by
    rw [insK]; split
    · rw [List.find?_cons, decide_eq_false hy]
    · rw [List.find?_cons, List.find?_cons, insK_find' y hy r]
theorem filt_find {k o : ByteArray} (h : o ≠ k) : ∀ l : List Label, (l.filter (ne k)).find? (fun x => decide (x.Key = o)) = l.find? (fun x => decide (x.Key = o))
  | [] => rfl
  | x :: l => by
    rw [List.filter_cons, List.find?_cons]
    by_cases hx : x.Key = k
    · have h1 : ne k x = false := by simp [ne, hx]
      have h2 : ¬ x.Key = o := fun e => h (e.symm.trans hx)
      rw [h1, decide_eq_false h2, if_neg (by simp)]; exact filt_find h l
    · simp [ne, hx, filt_find h l, List.find?_cons]
theorem filt_none {k : ByteArray} : ∀ {r : List Label}, (∀ x ∈ r, x.Key ≠ k) → r.filter (ne k) = r := fun h => List.filter_eq_self.2 fun x hx => by simp [ne, h x hx]
theorem insK_filt {k : ByteArray} (y : Label) (hy : y.Key = k) : ∀ r : List Label, (∀ x ∈ r, x.Key ≠ k) → (insK y r).filter (ne k) = r
  | [], _ => by simp [insK, ne, hy]
  | z :: r, h => by
    have hz := h z (List.mem_cons_self ..)
    rw [insK]; split
    · rw [List.filter_cons]
      have : ne k y = false := by simp [ne, hy]
      rw [this]; exact filt_none h
    · have : ne k z = true := by simp [ne, hz]
      rw [List.filter_cons, this, if_pos rfl, insK_filt y hy r fun x hx => h x (List.mem_cons_of_mem _ hx)]
theorem filt_ne {l : List Label} {k : ByteArray} : ∀ x ∈ l.filter (ne k), x.Key ≠ k := fun x hx => by
  have := (List.mem_filter.1 hx).2
  simpa [ne] using this
theorem withL_get (l : List Label) (k v : ByteArray) : getL (withL l k v) k = (v, true) := by
  unfold getL withL
  rw [insK_find ⟨k, v⟩ rfl _ filt_ne]
theorem withL_get' (l : List Label) {k v o : ByteArray} (h : o ≠ k) : getL (withL l k v) o = getL l o := by
  unfold getL withL
  rw [insK_find' ⟨k, v⟩ (fun e => h (show k = o from e).symm), filt_find h]
theorem withL_with (l : List Label) (k v : ByteArray) : withL (withL l k v) k v = withL l k v := by
  unfold withL
  rw [insK_filt ⟨k, v⟩ rfl _ filt_ne]
theorem adj_iff {α : Type} (f : α → ByteArray) (p : α → Bool) : ∀ (l : List α) (q : Option ByteArray), adj f p q l = true ↔ (∀ x ∈ l, p x = true) ∧ l.Pairwise (fun x y => lt (f x) (f y)) ∧ ∀ y, q = some y → ∀ x ∈ l, lt y (f x)
  | [], q => by simp [adj]
  | x :: l, q => by
    have e : adj f p q (x :: l) = ((p x && (match q with | none => true | some y => decide (lt y (f x)))) && adj f p (some (f x)) l) := by cases q <;> rfl
    rw [e, Bool.and_eq_true, Bool.and_eq_true, adj_iff f p l (some (f x)), List.pairwise_cons]
    constructor
    · rintro ⟨⟨h1, h2⟩, h3, h4, h5⟩
      refine ⟨fun z hz => (List.mem_cons.1 hz).elim (fun e => e ▸ h1) (h3 z), ⟨fun z hz => h5 _ rfl z hz, h4⟩, fun y hq z hz => ?_⟩
      subst hq
      have hxy : lt y (f x) := by simpa using h2
      rcases List.mem_cons.1 hz with e | hz
      · exact e ▸ hxy
      · exact lt_trans hxy (h5 _ rfl z hz)
    · rintro ⟨h1, ⟨h2, h3⟩, h4⟩
      refine ⟨⟨h1 x (List.mem_cons_self ..), ?_⟩, fun z hz => h1 z (List.mem_cons_of_mem _ hz), h3, fun y hy z hz => by cases hy; exact h2 z hz⟩
      cases q with
      | none => rfl
      | some y => simpa using h4 y rfl x (List.mem_cons_self ..)
theorem insK_pw (y : Label) : ∀ {r : List Label}, r.Pairwise (fun a b => lt a.Key b.Key) → (∀ x ∈ r, x.Key ≠ y.Key) → (insK y r).Pairwise fun a b => lt a.Key b.Key
  | [], _, _ => by simp [insK]
  | z :: r, h, hn => by
    have h2 := List.pairwise_cons.1 h
    rw [insK]; split
    · rename_i hl
      refine List.pairwise_cons.2 ⟨fun x hx => ?_, h⟩
      rcases List.mem_cons.1 hx with e | hx
      · exact e ▸ hl
      · exact lt_trans hl (h2.1 x hx)
    · rename_i hl
      refine List.pairwise_cons.2 ⟨fun x hx => ?_, insK_pw y h2.2 fun x hx => hn x (List.mem_cons_of_mem _ hx)⟩
      rcases (insK_mem y r).1 hx with e | hx
      · subst e; exact lt_of_not hl (fun e => hn z (List.mem_cons_self ..) e.symm)
      · exact h2.1 x hx
theorem getL_had {l : List Label} {k : ByteArray} (h : (getL l k).2 = true) : (l.filter (ne k)).length < l.length := by
  unfold getL at h
  cases hf : l.find? fun x => decide (x.Key = k) with
  | none => rw [hf] at h; cases h
  | some x =>
    have h1 := List.mem_of_find?_eq_some hf
    have h2 := List.find?_some hf
    refine Nat.lt_of_le_of_ne (List.length_filter_le ..) fun e => ?_
    have := List.length_filter_eq_length_iff.1 e x h1
    simp only [decide_eq_true_eq] at h2
    simp [ne, h2] at this
theorem withL_valid {l : List Label} {k v : ByteArray} (h1 : validL l = true) (h2 : validL [⟨k, v⟩] = true) (h3 : (getL l k).2 = true ∨ l.length < 16) : validL (withL l k v) = true := by
  unfold validL at h1 h2 ⊢
  simp only [Bool.and_eq_true, decide_eq_true_eq, adj_iff] at h1 h2 ⊢
  obtain ⟨a1, a2, a3, _⟩ := h1
  obtain ⟨_, b2, _, _⟩ := h2
  refine ⟨?_, fun x hx => ?_, ?_, fun y hy => by cases hy⟩
  · rw [withL, insK_len]
    rcases h3 with h3 | h3
    · have := getL_had h3; omega
    · have : (l.filter (ne k)).length ≤ l.length := List.length_filter_le ..
      omega
  · rcases (insK_mem _ _).1 hx with e | hx
    · subst e; exact b2 _ (List.mem_cons_self ..)
    · exact a2 x (List.mem_filter.1 hx).1
  · exact insK_pw _ (a3.filter _) filt_ne
theorem LabelEdits_pure : LabelEdits.Pure := by
  intro l k v o _ _ _ _ _
  unfold F9
  simp only [F11_t, F12_t, Option.bind_some]
  cases h : small l []
  · rfl
  have h1 := small_l h
  simp only [nb_not, Bool.not_true, Bool.false_eq_true, if_false]
  have hw := withL_len l k v
  rw [F20_t l k v (by omega), Option.bind_some, F20_t _ k v (show (withL l k v).length ≤ 500 by omega), withL_with]
  simp only [F17_t l _ (show l.length ≤ 4294967290 by omega), F17_t _ _ (show (withL l k v).length ≤ 4294967290 by omega), F19_t _ (show (withL l k v).length ≤ 4294967290 by omega), F13_t, Option.bind_some, withL_get]
  have hval : ((if validL l = true then if validL [⟨k, v⟩] = true then if (getL l k).2 = true then some (nb (validL (withL l k v))) else if (l.length : Int) < 16 then some (nb (validL (withL l k v))) else some false else some false else some false) : Option Bool) = some false := by
    split
    · rename_i g1
      split
      · rename_i g2
        split
        · rename_i g3
          rw [withL_valid g1 g2 (.inl g3)]; rfl
        · split
          · rename_i g3
            rw [withL_valid g1 g2 (.inr (by omega))]; rfl
          · rfl
      · rfl
    · rfl
  simp only [nb_not] at hval
  simp only [hval, Option.bind_some]
  by_cases hk : 200 < (k.size : Int)
  · simp [hk]
  by_cases hv : 200 < (v.size : Int)
  · simp [hk, hv]
  by_cases ho : 200 < (o.size : Int)
  · simp [hk, hv, ho]
  by_cases he : o = k
  · simp [hk, hv, ho, he]
  · simp [hk, hv, ho, he, withL_get' l he]
open Go Go.Fw
set_option maxRecDepth 100000

open Go Go.Fw
set_option maxRecDepth 100000

open Go Go.Fw
set_option maxRecDepth 100000

open Go Go.Fw
set_option maxRecDepth 100000

end Go.Proofs.Ytadhmlfnfgpjjaa
