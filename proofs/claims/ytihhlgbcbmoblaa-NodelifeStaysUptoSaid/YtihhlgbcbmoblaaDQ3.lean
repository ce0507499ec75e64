/- The plain laws, part 3. -/
import Derived.Test.YtihhlgbcbmoblaaDQ2
set_option linter.unusedVariables false
set_option linter.unusedSimpArgs false
namespace Go.Proofs.Ytihhlgbcbmoblaa
open Go Go.Fw
set_option maxRecDepth 100000

/-! Sizes. -/
structure Sp (p : Pod) : Prop where
  k1 : p.Meta.Kind.size ≤ 2000000
  k2 : p.Meta.Namespace.size ≤ 2000000
  k3 : p.Meta.Name.size ≤ 2000000
  o : p.Meta.Owners.length ≤ 1999000
  t : p.Spec.Tolerations.length ≤ 1999000
structure Sl (ns : List Node) (ps : List Pod) : Prop where
  n : ns.length ≤ 1999000
  p : ps.length ≤ 1999000
  t : ∀ n ∈ ns, n.Taints.length ≤ 1999000
  s : ∀ p ∈ ps, Sp p
theorem sl_of {ns : List Node} {ps : List Pod} (h : (wL wNode) ns + (wL wPod) ps ≤ 1048576) : Sl ns ps := by
  unfold wL at h
  have h1 := wsum_le (w := wNode) (fun a => by unfold wNode; omega) ns
  have h2 := wsum_le (w := wPod) (fun a => by unfold wPod; omega) ps
  refine ⟨by omega, by omega, fun n hn => ?_, fun p hp => ?_⟩
  · have a1 := mem_sum wNode hn
    have a2 := wsum_le (w := wTaint) (fun a => by unfold wTaint; omega) n.Taints
    have a0 : wNode n ≤ 1048576 := by omega
    unfold wNode wL at a0
    omega
  · have a1 := mem_sum wPod hp
    have a2 := wsum_le (w := wOwner) (fun a => by unfold wOwner; omega) p.Meta.Owners
    have a3 := wsum_le (w := wToleration) (fun a => by unfold wToleration; omega) p.Spec.Tolerations
    have a0 : wPod p ≤ 1048576 := by omega
    unfold wPod wMeta wPodSpec wL wS at a0
    exact ⟨by omega, by omega, by omega, by omega, by omega⟩

/-! Keys, nodes, owners. -/
def sl : ByteArray := ⟨#[47]⟩
def kf (m : Meta) : ByteArray := m.Kind ++ sl ++ m.Namespace ++ sl ++ m.Name
theorem F19_spec {p : Pod} (h : Sp p) : F19 p.Meta = some (kf p.Meta) := by
  have h1 := h.k1; have h2 := h.k2; have h3 := h.k3
  unfold F19 F44
  have hs : (⟨#[47]⟩ : ByteArray).size = 1 := rfl
  rw [cat_t (by omega), Option.bind_some, cat_t (by rw [ByteArray.size_append]; omega), Option.bind_some, cat_t (by rw [ByteArray.size_append, ByteArray.size_append]; omega), Option.bind_some, cat_t (by rw [ByteArray.size_append, ByteArray.size_append, ByteArray.size_append]; omega)]
  rfl
theorem fip_find {α : Type} (p : α → Bool) : ∀ l : List α, l[fip p l]? = l.find? p
  | [] => rfl
  | y :: l => by
    unfold fip
    by_cases h : p y = true
    · rw [if_pos h, List.find?_cons_of_pos h]; rfl
    · rw [if_neg h, List.find?_cons_of_neg h, List.getElem?_cons_succ, fip_find p l]
def nmP (s : ByteArray) (n : Node) : Bool := decide (n.Meta.Name = s)
def fnd (ns : List Node) (p : Pod) : Option Node := if p.Spec.Node = kE then none else ns.find? (nmP p.Spec.Node)
theorem F56v1_l1_spec (b : Pod) : ∀ (l : List Node) (i : Nat), F56v1_l1 b l i = some (if fip (nmP b.Spec.Node) l < l.length then .inl ((i + fip (nmP b.Spec.Node) l : Nat) : Int) else .inr ())
  | [], i => rfl
  | y :: l, i => by
    have ih := F56v1_l1_spec b l (i + 1)
    rw [F56v1_l1]
    simp only [F65, Option.bind_some]
    by_cases h1 : y.Meta.Name = b.Spec.Node
    · have e : fip (nmP b.Spec.Node) (y :: l) = 0 := by rw [fip, if_pos (by simp [nmP, h1])]
      rw [if_pos h1, e, if_pos (by simp)]; rfl
    · have e : fip (nmP b.Spec.Node) (y :: l) = fip (nmP b.Spec.Node) l + 1 := by rw [fip, if_neg (by simp [nmP, h1])]
      rw [if_neg h1, e, ih, List.length_cons]
      by_cases h2 : fip (nmP b.Spec.Node) l < l.length
      · rw [if_pos h2, if_pos (by omega)]; congr 3; omega
      · rw [if_neg h2, if_neg (by omega)]
def zN : Node := ⟨(⟨(⟨#[]⟩ : ByteArray), (⟨#[]⟩ : ByteArray), (⟨#[]⟩ : ByteArray), 0, 0, 0, 0, false, 0, [], [], [], []⟩ : Meta), (⟨0, 0, 0⟩ : Resources), 0, false, [], false, 0, false, false, []⟩
theorem F43_spec {ns : List Node} (p : Pod) (h : ns.length ≤ 1999000) : F43 ns p = some (match fnd ns p with | some n => (n, true) | none => (zN, false)) := by
  unfold F43 F56v1
  rw [ck_t ⟨Nat.zero_le _, by omega⟩, Option.bind_some, F56v1_l1_spec, Option.bind_some]
  have hf := fip_find (nmP p.Spec.Node) ns
  unfold fnd
  have e0 : (⟨#[]⟩ : ByteArray) = kE := rfl
  simp only [e0]
  by_cases h1 : fip (nmP p.Spec.Node) ns < ns.length
  · simp only [h1, if_true, Option.bind_some, Nat.zero_add]
    rw [List.getElem?_eq_getElem h1] at hf
    by_cases h0 : p.Spec.Node = kE
    · simp only [h0, if_true, Option.bind_some]; rfl
    · simp only [h0, if_false, Option.bind_some, ← hf]
      rw [if_neg (by simp), rdI_at h1]; rfl
  · simp only [h1, if_false, Option.bind_some]
    rw [List.getElem?_eq_none (by omega)] at hf
    by_cases h0 : p.Spec.Node = kE
    · simp only [h0, if_true, Option.bind_some]; rfl
    · simp only [h0, if_false, Option.bind_some, ← hf]
      rw [if_pos (by simp)]; rfl
def zO : Owner := ⟨(⟨#[]⟩ : ByteArray), (⟨#[]⟩ : ByteArray), 0, false, false⟩
def ctl (m : Meta) : Owner × Bool := match m.Owners.find? (·.Controller) with | some o => (o, true) | none => (zO, false)
theorem F59_l1_spec : ∀ (l : List Owner) (i : Nat), F59_l1 l i = some (match l.find? (·.Controller) with | some o => .inl (o, true) | none => .inr ())
  | [], i => rfl
  | y :: l, i => by
    rw [F59_l1]
    cases h : y.Controller with
    | true => rw [if_pos rfl, List.find?_cons_of_pos h]; rfl
    | false => rw [if_neg (by simp), List.find?_cons_of_neg (by simp [h]), F59_l1_spec l (i + 1)]
theorem F59_spec {m : Meta} (h : m.Owners.length ≤ 1999000) : F59 m = some (ctl m) := by
  unfold F59 ctl
  rw [ck_t ⟨Nat.zero_le _, by omega⟩, Option.bind_some, F59_l1_spec, Option.bind_some]
  cases m.Owners.find? (·.Controller) <;> rfl
def kDS : ByteArray := ⟨#[68, 97, 101, 109, 111, 110, 83, 101, 116]⟩
def dmn (m : Meta) : Bool := (ctl m).2 && decide ((ctl m).1.Kind = kDS)
def tnts (n : Node) (p : Pod) : List Taint := if dmn p.Meta = true then n.Taints.filter (fun x => !mg x) else n.Taints
theorem tnts_len (n : Node) (p : Pod) : (tnts n p).length ≤ n.Taints.length := by
  unfold tnts; split
  · exact List.length_filter_le ..
  · exact Nat.le_refl _

/-! When a pod leaves. -/
def tol (x : Toleration) (t : Taint) : Bool := decide ((x.Key = kE ∨ x.Key = t.Key) ∧ (x.Exists = true ∨ x.Value = t.Value) ∧ (x.Effect = 0 ∨ x.Effect = t.Effect))
theorem tol_code (x : Toleration) (t : Taint) : (((if x.Key = (⟨#[]⟩ : ByteArray) then (if x.Exists = true then (if x.Effect = 0 then some true else some (decide (x.Effect = t.Effect))) else (if x.Value = t.Value then (if x.Effect = 0 then some true else some (decide (x.Effect = t.Effect))) else some false)) else (if x.Key = t.Key then (if x.Exists = true then (if x.Effect = 0 then some true else some (decide (x.Effect = t.Effect))) else (if x.Value = t.Value then (if x.Effect = 0 then some true else some (decide (x.Effect = t.Effect))) else some false)) else some false))).bind fun o1 => some o1) = some (tol x t) := by
  have e : (⟨#[]⟩ : ByteArray) = kE := rfl
  rw [e]
  unfold tol
  by_cases h1 : x.Key = kE <;> by_cases h2 : x.Key = t.Key <;> by_cases h3 : x.Exists = true <;> by_cases h4 : x.Value = t.Value <;> by_cases h5 : x.Effect = 0 <;> by_cases h6 : x.Effect = t.Effect <;>
    simp only [h1, h2, h3, h4, h5, h6, if_true, if_false, Option.bind_some, true_and, and_true, false_and, and_false, true_or, or_true, false_or, or_false, decide_true, decide_false, Bool.false_eq_true] <;> simp_all
theorem F81_eq (x : Toleration) (t : Taint) : F81 x t = some (tol x t) := tol_code x t
def mnI : List Toleration → Int → Option Int
  | [], a => some a
  | y :: l, a => if y.Seconds < 0 then none else mnI l (if a < 0 ∨ y.Seconds < a then y.Seconds else a)
def lvT (t : Taint) (l : List Toleration) : Int × Bool := match mnI (l.filter fun x => tol x t) (-1) with | none => (0, false) | some a => (clT (clT t.Since + clT a), true)
theorem F68_l1_spec (t : Taint) : ∀ (l : List Toleration) (i : Nat) (a : Int), F68_l1 t l i a = some (match mnI (l.filter fun x => tol x t) a with | none => .inl (0, false) | some b => .inr b)
  | [], i, a => rfl
  | y :: l, i, a => by
    rw [F68_l1, F81_eq]
    simp only [Option.bind_some, nb_not]
    cases h : tol y t with
    | false =>
      rw [List.filter_cons_of_neg (by simp [h])]
      simp only [Bool.not_false, if_true, Option.bind_some]
      exact F68_l1_spec t l (i + 1) a
    | true =>
      rw [List.filter_cons_of_pos (by simp [h]), mnI]
      simp only [Bool.not_true, Bool.false_eq_true, if_false]
      by_cases h1 : y.Seconds < 0
      · rw [if_pos h1, if_pos h1]; rfl
      · rw [if_neg h1, if_neg h1]
        by_cases h2 : a < 0
        · rw [if_pos h2, if_pos (.inl h2)]
          simp only [Option.bind_some, if_true]
          exact F68_l1_spec t l (i + 1) _
        · rw [if_neg h2]
          by_cases h3 : y.Seconds < a
          · rw [if_pos (.inr h3)]
            simp only [Option.bind_some, h3, decide_true, if_true]
            exact F68_l1_spec t l (i + 1) _
          · rw [if_neg (by omega : ¬ (a < 0 ∨ y.Seconds < a))]
            simp only [Option.bind_some, h3, decide_false, Bool.false_eq_true, if_false]
            exact F68_l1_spec t l (i + 1) _
theorem F68_spec (t : Taint) (l : List Toleration) (h : l.length ≤ 1999000) : F68 t l = some (lvT t l) := by
  unfold F68 lvT
  rw [ck_t ⟨Nat.zero_le _, by omega⟩, Option.bind_some, F68_l1_spec, Option.bind_some]
  cases hm : mnI (l.filter fun x => tol x t) (-1) with
  | none => rfl
  | some a =>
    have h1 := clT_r t.Since; have h2 := clT_r a
    have hw : IntKind.i64.wrap (clT t.Since + clT a) = clT t.Since + clT a := wrapI (by omega) (by omega)
    simp only [hcl, hw, clT_pos (by omega : 0 ≤ clT t.Since + clT a)]
def evL (tl : List Toleration) : List Taint → Int → Bool → Int × Bool
  | [], a, b => (a, b)
  | x :: l, a, b => if x.Effect = 3 ∧ (lvT x tl).2 = true ∧ (b = false ∨ (lvT x tl).1 < a) then evL tl l (lvT x tl).1 true else evL tl l a b
theorem F61_l1_spec (tl : List Toleration) (h : tl.length ≤ 1999000) : ∀ (l : List Taint) (i : Nat) (a : Int) (b : Bool), F61_l1 tl l i a b = some (evL tl l a b)
  | [], i, a, b => rfl
  | x :: l, i, a, b => by
    rw [F61_l1, evL]
    by_cases h1 : x.Effect = 3
    · rw [if_neg (by simp [h1]), F68_spec x tl h]
      simp only [Option.bind_some, h1, true_and]
      cases h2 : (lvT x tl).2 with
      | false =>
        simp only [Bool.false_eq_true, if_false, Option.bind_some, false_and]
        exact F61_l1_spec tl h l (i + 1) a b
      | true =>
        simp only [if_true, true_and]
        cases b with
        | false =>
          simp only [nb, Bool.not_false, if_true, Option.bind_some, true_or]
          exact F61_l1_spec tl h l (i + 1) _ _
        | true =>
          simp only [nb, Bool.not_true, Bool.false_eq_true, if_false, Option.bind_some, false_or, Bool.true_eq_false]
          by_cases h3 : (lvT x tl).1 < a
          · simp only [h3, decide_true, if_true, Option.bind_some]
            exact F61_l1_spec tl h l (i + 1) _ _
          · simp only [h3, decide_false, Bool.false_eq_true, if_false, Option.bind_some]
            exact F61_l1_spec tl h l (i + 1) _ _
    · rw [if_pos h1, if_neg (by simp [h1])]
      simp only [Option.bind_some]
      exact F61_l1_spec tl h l (i + 1) a b
theorem F61_spec (l : List Taint) (tl : List Toleration) (h : l.length ≤ 1999000) (h' : tl.length ≤ 1999000) : F61 l tl = some (evL tl l 0 false) := by
  unfold F61
  rw [ck_t ⟨Nat.zero_le _, by omega⟩, Option.bind_some, F61_l1_spec tl h', Option.bind_some]
def lvs (ns : List Node) (now : Int) (p : Pod) : Bool := match fnd ns p with
  | none => false
  | some n => !p.Meta.Deleting && ((evL p.Spec.Tolerations (tnts n p) 0 false).2 && decide ((evL p.Spec.Tolerations (tnts n p) 0 false).1 ≤ clT now))
theorem fnd_mem {ns : List Node} {p : Pod} {n : Node} (h : fnd ns p = some n) : n ∈ ns := by
  unfold fnd at h
  split at h
  · cases h
  · exact List.mem_of_find?_eq_some h
theorem F36_spec {ns : List Node} {p : Pod} (hn : ns.length ≤ 1999000) (ht : ∀ n ∈ ns, n.Taints.length ≤ 1999000) (hp : Sp p) (now : Int) : F36 ns p now = some (lvs ns now p) := by
  unfold F36 lvs
  rw [F43_spec p hn]
  simp only [Option.bind_some]
  cases hf : fnd ns p with
  | none => simp [nb]
  | some n =>
    have hl := ht n (fnd_mem hf)
    simp only [nb, Bool.not_true, Bool.false_eq_true, if_false, Option.bind_some]
    cases hd : p.Meta.Deleting with
    | true => rfl
    | false =>
      simp only [Bool.false_eq_true, if_false, Bool.not_false, Bool.true_and]
      rw [cl_t hl, Option.bind_some, F59_spec hp.o, Option.bind_some]
      have e1 : (((if (ctl p.Meta).2 = true then some (decide (((ctl p.Meta).1).Kind = (⟨#[68, 97, 101, 109, 111, 110, 83, 101, 116]⟩ : ByteArray))) else some false)) : Option Bool) = some (dmn p.Meta) := by
        unfold dmn kDS
        cases (ctl p.Meta).2 <;> rfl
      rw [e1]
      simp only [Option.bind_some]
      have e2 : ((if dmn p.Meta = true then (F25v1 n.Taints).bind fun t11 => some t11 else some n.Taints) : Option (List Taint)) = some (tnts n p) := by
        unfold tnts
        cases dmn p.Meta with
        | true => rw [if_pos rfl, if_pos rfl, F25v1_spec _ (by omega)]; rfl
        | false => rfl
      rw [e2]
      have := tnts_len n p
      simp only [Option.bind_some]
      rw [F61_spec _ _ (by omega) hp.t]
      simp only [Option.bind_some, F23, hcl]
      cases (evL p.Spec.Tolerations (tnts n p) 0 false).2 with
      | true => simp only [if_true, Option.bind_some, Bool.true_and]; congr 1
      | false => rfl
def lft (ns : List Node) (ps : List Pod) (now : Int) : List ByteArray := if ns.any (·.Ready) = true then compL (sortL ((ps.filter (lvs ns now)).map fun p => kf p.Meta)) else []
theorem F34_l1_spec {ns : List Node} (hn : ns.length ≤ 1999000) (ht : ∀ n ∈ ns, n.Taints.length ≤ 1999000) (now : Int) : ∀ (l : List Pod) (i : Nat) (o : List ByteArray), (∀ p ∈ l, Sp p) → o.length + l.length ≤ 1999990 → F34_l1 ns now l i o = some (o ++ (l.filter (lvs ns now)).map fun p => kf p.Meta)
  | [], i, o, _, _ => by simp [F34_l1]
  | p :: l, i, o, hp, hl => by
    simp only [List.length_cons] at hl
    have hp0 := hp p (List.mem_cons_self ..)
    rw [F34_l1]
    simp only [F35]
    rw [F36_spec hn ht hp0 now]
    simp only [Option.bind_some]
    cases h : lvs ns now p with
    | true =>
      simp only [if_true]
      rw [F19_spec hp0]
      simp only [Option.bind_some]
      rw [apI_t (by simp; omega)]
      simp only [Option.bind_some]
      rw [F34_l1_spec hn ht now l (i + 1) _ (fun q hq => hp q (List.mem_cons_of_mem _ hq)) (by simp; omega), List.filter_cons_of_pos (by simpa using h)]
      simp
    | false =>
      simp only [Bool.false_eq_true, if_false, Option.bind_some]
      rw [F34_l1_spec hn ht now l (i + 1) _ (fun q hq => hp q (List.mem_cons_of_mem _ hq)) (by omega), List.filter_cons_of_neg (by simp [h])]
theorem F56_l1_spec : ∀ (l : List Node) (i : Nat), F56_l1 l i = some (.inr ()) ∧ l.any (·.Ready) = false ∨ (∃ k : Nat, F56_l1 l i = some (.inl (k : Int))) ∧ l.any (·.Ready) = true
  | [], i => .inl ⟨rfl, rfl⟩
  | y :: l, i => by
    rw [F56_l1]
    simp only [F33, Option.bind_some]
    cases h : y.Ready with
    | true => exact .inr ⟨⟨i, by rw [if_pos rfl]; rfl⟩, by simp [h]⟩
    | false =>
      rw [if_neg (by simp)]
      rcases F56_l1_spec l (i + 1) with ⟨h1, h2⟩ | ⟨h1, h2⟩
      · exact .inl ⟨h1, by rw [List.any_cons, h, h2]; rfl⟩
      · exact .inr ⟨h1, by rw [List.any_cons, h2]; simp⟩
theorem F32_spec {ns : List Node} (h : ns.length ≤ 1999000) : F32 ns = some (ns.any (·.Ready)) := by
  unfold F32 F56
  rw [ck_t ⟨Nat.zero_le _, by omega⟩]
  simp only [Option.bind_some]
  rcases F56_l1_spec ns 0 with ⟨h1, h2⟩ | ⟨⟨k, h1⟩, h2⟩
  · rw [h1, h2]; rfl
  · rw [h1, h2]; simp
theorem srt_t {l : List ByteArray} (h : l.length ≤ 1999990) : (sortI l).bind (fun t => (compI t).bind fun u => some u) = some (compL (sortL l)) := by
  unfold sortI
  rw [if_pos (by omega), Option.bind_some]
  unfold compI
  rw [if_pos (by rw [sortL_len]; omega)]; rfl
theorem F13_spec {ns : List Node} {ps : List Pod} (h : Sl ns ps) (now : Int) : F13 ns ps now = some (lft ns ps now) := by
  have hp := h.p
  unfold F13 lft
  rw [F32_spec h.n]
  simp only [Option.bind_some, nb_not]
  cases ns.any (·.Ready) with
  | false => rfl
  | true =>
    simp only [Bool.not_true, Bool.false_eq_true, if_false, if_true]
    unfold F34
    rw [ck_t ⟨Nat.zero_le _, by omega⟩, Option.bind_some, F34_l1_spec h.n h.t now ps 0 [] h.s (by simp; omega)]
    simp only [Option.bind_some, List.nil_append]
    rw [srt_t]; · rfl
    · have : (ps.filter (lvs ns now)).length ≤ ps.length := List.length_filter_le ..
      rw [List.length_map]; omega

/-! Pods whose node is gone. -/
def gnd (ns : List Node) (p : Pod) : Bool := decide (p.Spec.Node ≠ kE) && (fnd ns p).isNone
def gon (ns : List Node) (ps : List Pod) : List ByteArray := compL (sortL ((ps.filter (gnd ns)).map fun p => kf p.Meta))
theorem F42_spec {ns : List Node} (hn : ns.length ≤ 1999000) (p : Pod) : F42 p ns = some (gnd ns p) := by
  unfold F42 gnd
  rw [F43_spec p hn]
  simp only [Option.bind_some]
  by_cases h0 : p.Spec.Node = kE
  · have h0' : p.Spec.Node = (⟨#[]⟩ : ByteArray) := h0
    rw [if_neg (by simpa using h0')]; simp [h0]
  · have h0' : ¬ p.Spec.Node = (⟨#[]⟩ : ByteArray) := h0
    rw [if_pos h0']
    cases fnd ns p <;> simp [h0, nb]
theorem F34v1_l1_spec {ns : List Node} (hn : ns.length ≤ 1999000) : ∀ (l : List Pod) (i : Nat) (o : List ByteArray), (∀ p ∈ l, Sp p) → o.length + l.length ≤ 1999990 → F34v1_l1 ns l i o = some (o ++ (l.filter (gnd ns)).map fun p => kf p.Meta)
  | [], i, o, _, _ => by simp [F34v1_l1]
  | p :: l, i, o, hp, hl => by
    simp only [List.length_cons] at hl
    have hp0 := hp p (List.mem_cons_self ..)
    rw [F34v1_l1, F42_spec hn p]
    simp only [Option.bind_some]
    cases h : gnd ns p with
    | true =>
      simp only [if_true]
      rw [F19_spec hp0]
      simp only [Option.bind_some]
      rw [apI_t (by simp; omega)]
      simp only [Option.bind_some]
      rw [F34v1_l1_spec hn l (i + 1) _ (fun q hq => hp q (List.mem_cons_of_mem _ hq)) (by simp; omega), List.filter_cons_of_pos (by simpa using h)]
      simp
    | false =>
      simp only [Bool.false_eq_true, if_false, Option.bind_some]
      rw [F34v1_l1_spec hn l (i + 1) _ (fun q hq => hp q (List.mem_cons_of_mem _ hq)) (by omega), List.filter_cons_of_neg (by simp [h])]
theorem F15_spec {ns : List Node} {ps : List Pod} (h : Sl ns ps) : F15 ns ps = some (gon ns ps) := by
  have hp := h.p
  unfold F15 F34v1 gon
  rw [ck_t ⟨Nat.zero_le _, by omega⟩, Option.bind_some, F34v1_l1_spec h.n ps 0 [] h.s (by simp; omega)]
  simp only [Option.bind_some, List.nil_append]
  rw [srt_t]; · rfl
  · have : (ps.filter (gnd ns)).length ≤ ps.length := List.length_filter_le ..
    rw [List.length_map]; omega
theorem lft_len (ns : List Node) (ps : List Pod) (now : Int) : (lft ns ps now).length ≤ ps.length := by
  unfold lft
  split
  · have h1 := compL_len (sortL ((ps.filter (lvs ns now)).map fun p => kf p.Meta))
    have h2 : (ps.filter (lvs ns now)).length ≤ ps.length := List.length_filter_le ..
    rw [sortL_len, List.length_map] at h1; omega
  · simp
theorem gon_len (ns : List Node) (ps : List Pod) : (gon ns ps).length ≤ ps.length := by
  unfold gon
  have h1 := compL_len (sortL ((ps.filter (gnd ns)).map fun p => kf p.Meta))
  have h2 : (ps.filter (gnd ns)).length ≤ ps.length := List.length_filter_le ..
  rw [sortL_len, List.length_map] at h1; omega
theorem lft_mem {ns : List Node} {ps : List Pod} {now : Int} {k : ByteArray} : k ∈ lft ns ps now ↔ ns.any (·.Ready) = true ∧ ∃ p ∈ ps, lvs ns now p = true ∧ kf p.Meta = k := by
  unfold lft
  cases ns.any (·.Ready) with
  | true =>
    simp only [if_true, true_and]
    rw [compL_mem, sortL_mem, List.mem_map]
    constructor
    · rintro ⟨p, h1, h2⟩; exact ⟨p, (List.mem_filter.1 h1).1, (List.mem_filter.1 h1).2, h2⟩
    · rintro ⟨p, h1, h2, h3⟩; exact ⟨p, List.mem_filter.2 ⟨h1, h2⟩, h3⟩
  | false => simp
theorem gon_mem {ns : List Node} {ps : List Pod} {k : ByteArray} : k ∈ gon ns ps ↔ ∃ p ∈ ps, gnd ns p = true ∧ kf p.Meta = k := by
  unfold gon
  rw [compL_mem, sortL_mem, List.mem_map]
  constructor
  · rintro ⟨p, h1, h2⟩; exact ⟨p, (List.mem_filter.1 h1).1, (List.mem_filter.1 h1).2, h2⟩
  · rintro ⟨p, h1, h2, h3⟩; exact ⟨p, List.mem_filter.2 ⟨h1, h2⟩, h3⟩
end Go.Proofs.Ytihhlgbcbmoblaa
