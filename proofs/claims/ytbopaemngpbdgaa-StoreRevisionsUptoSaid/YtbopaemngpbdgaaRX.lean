/- Each Go function as a function over typed data, and its walk. -/
import Derived.Test.YtbopaemngpbdgaaFE
import Derived.Ground.NamesProg
import Derived.Shelf.Lay
import Derived.KernelRfl
import Derived.Test.YtbopaemngpbdgaaProg
namespace Go.Proofs.Ytbopaemngpbdgaa
open Go Go.Fw Go.Shelf
set_option maxRecDepth 100000
set_option maxHeartbeats 4000000
set_option linter.unusedSimpArgs false
set_option linter.unusedVariables false
mutual
structure TField where
  Name : ByteArray
  V : TValue
structure TValue where
  Kind : Int
  N : Int
  S : ByteArray
  List_ : (List TValue)
  Fields : (List TField)
end
mutual
def eTField : TField → List D
  | ⟨a0, a1⟩ => [.v (.string a0)] ++ (eTValue a1)
def eTFieldL : List TField → List (List D)
  | [] => []
  | x :: r => eTField x :: eTFieldL r
def eTValue : TValue → List D
  | ⟨a0, a1, a2, a3, a4⟩ => [.v (.int .i64 a0)] ++ [.v (.int .i64 a1)] ++ [.v (.string a2)] ++ [.sl (eTValueL a3)] ++ [.sl (eTFieldL a4)]
def eTValueL : List TValue → List (List D)
  | [] => []
  | x :: r => eTValue x :: eTValueL r
end
mutual
def okTField : TField → Prop
  | ⟨a0, a1⟩ => okT a0 ∧ okTValue a1 ∧ True
def okTFieldL : List TField → Prop
  | [] => True
  | x :: r => okTField x ∧ okTFieldL r
def okTValue : TValue → Prop
  | ⟨a0, a1, a2, a3, a4⟩ => okN a0 ∧ okN a1 ∧ okT a2 ∧ okTValueL a3 ∧ okTFieldL a4 ∧ True
def okTValueL : List TValue → Prop
  | [] => True
  | x :: r => okTValue x ∧ okTValueL r
end
mutual
def wTField : TField → Nat
  | ⟨a0, a1⟩ => wS a0 + (wTValue a1 + 0) + 1
def wTFieldL : List TField → Nat
  | [] => 1
  | x :: r => wTField x + wTFieldL r
def wTValue : TValue → Nat
  | ⟨a0, a1, a2, a3, a4⟩ => wN a0 + (wN a1 + (wS a2 + (wTValueL a3 + (wTFieldL a4 + 0)))) + 1
def wTValueL : List TValue → Nat
  | [] => 1
  | x :: r => wTValue x + wTValueL r
end
theorem eTFieldL_map : ∀ l : List TField, eTFieldL l = l.map eTField
  | [] => by rw [eTFieldL]; rfl
  | x :: r => by rw [eTFieldL, eTFieldL_map r]; rfl
theorem okTFieldL_iff : ∀ l : List TField, okTFieldL l ↔ okL okTField l
  | [] => by rw [okTFieldL]; simp [okL]
  | x :: r => by rw [okTFieldL, okTFieldL_iff r]; simp [okL]
theorem wTFieldL_eq : ∀ l : List TField, wTFieldL l = wL wTField l
  | [] => by rw [wTFieldL]; simp [wL]
  | x :: r => by rw [wTFieldL, wTFieldL_eq r]; simp [wL, Nat.add_assoc]
theorem eTValueL_map : ∀ l : List TValue, eTValueL l = l.map eTValue
  | [] => by rw [eTValueL]; rfl
  | x :: r => by rw [eTValueL, eTValueL_map r]; rfl
theorem okTValueL_iff : ∀ l : List TValue, okTValueL l ↔ okL okTValue l
  | [] => by rw [okTValueL]; simp [okL]
  | x :: r => by rw [okTValueL, okTValueL_iff r]; simp [okL]
theorem wTValueL_eq : ∀ l : List TValue, wTValueL l = wL wTValue l
  | [] => by rw [wTValueL]; simp [wL]
  | x :: r => by rw [wTValueL, wTValueL_eq r]; simp [wL, Nat.add_assoc]
theorem eTValue_u (x : TValue) : eTValue x = [.v (.int .i64 x.Kind), .v (.int .i64 x.N), .v (.string x.S), .sl (x.List_.map eTValue), .sl (x.Fields.map eTField)] := by
  obtain ⟨a0, a1, a2, a3, a4⟩ := x
  simp only [eTValue, eTFieldL_map, eTValueL_map, List.cons_append, List.nil_append]
theorem okTValue_u (x : TValue) : okTValue x ↔ (okN x.Kind ∧ okN x.N ∧ okT x.S ∧ (okL okTValue) x.List_ ∧ (okL okTField) x.Fields ∧ True) := by
  obtain ⟨a0, a1, a2, a3, a4⟩ := x
  simp only [okTValue, okTFieldL_iff, okTValueL_iff]
theorem wTValue_u (x : TValue) : wTValue x = wN x.Kind + (wN x.N + (wS x.S + ((wL wTValue) x.List_ + ((wL wTField) x.Fields + 0)))) + 1 := by
  obtain ⟨a0, a1, a2, a3, a4⟩ := x
  simp only [wTValue, wTFieldL_eq, wTValueL_eq]
theorem eTField_u (x : TField) : eTField x = [.v (.string x.Name), .v (.int .i64 x.V.Kind), .v (.int .i64 x.V.N), .v (.string x.V.S), .sl (x.V.List_.map eTValue), .sl (x.V.Fields.map eTField)] := by
  obtain ⟨a0, a1⟩ := x
  simp only [eTField, eTFieldL_map, eTValueL_map, eTValue_u, List.cons_append, List.nil_append]
theorem okTField_u (x : TField) : okTField x ↔ (okT x.Name ∧ okTValue x.V ∧ True) := by
  obtain ⟨a0, a1⟩ := x
  simp only [okTField, okTFieldL_iff, okTValueL_iff]
theorem wTField_u (x : TField) : wTField x = wS x.Name + (wTValue x.V + 0) + 1 := by
  obtain ⟨a0, a1⟩ := x
  simp only [wTField, wTFieldL_eq, wTValueL_eq]
structure Label where
  Key : ByteArray
  Value : ByteArray
  deriving DecidableEq
def okLabel (x : Label) : Prop := okT x.Key ∧ okT x.Value ∧ True
def wLabel (x : Label) : Nat := wS x.Key + (wS x.Value + 0) + 1
def eLabel (x : Label) : List D := [.v (.string x.Key), .v (.string x.Value)]
structure Owner where
  Kind : ByteArray
  Name : ByteArray
  Uid : Int
  Controller : Bool
  Block : Bool
  deriving DecidableEq
def okOwner (x : Owner) : Prop := okT x.Kind ∧ okT x.Name ∧ okN x.Uid ∧ okT x.Controller ∧ okT x.Block ∧ True
def wOwner (x : Owner) : Nat := wS x.Kind + (wS x.Name + (wN x.Uid + (wN x.Controller + (wN x.Block + 0)))) + 1
def eOwner (x : Owner) : List D := [.v (.string x.Kind), .v (.string x.Name), .v (.int .i64 x.Uid), .v (.bool x.Controller), .v (.bool x.Block)]
structure Manager where
  Name : ByteArray
  Fields : (List ByteArray)
  deriving DecidableEq
def okManager (x : Manager) : Prop := okT x.Name ∧ (okL okT) x.Fields ∧ True
def wManager (x : Manager) : Nat := wS x.Name + ((wL wS) x.Fields + 0) + 1
def eManager (x : Manager) : List D := [.v (.string x.Name), .sl (x.Fields.map eS)]
structure Meta where
  Kind : ByteArray
  Namespace : ByteArray
  Name : ByteArray
  Uid : Int
  Version : Int
  Generation : Int
  Created : Int
  Deleting : Bool
  DeleteAt : Int
  Labels : (List Label)
  Owners : (List Owner)
  Finalizers : (List ByteArray)
  Managers : (List Manager)
  deriving DecidableEq
def okMeta (x : Meta) : Prop := okT x.Kind ∧ okT x.Namespace ∧ okT x.Name ∧ okN x.Uid ∧ okN x.Version ∧ okN x.Generation ∧ okN x.Created ∧ okT x.Deleting ∧ okN x.DeleteAt ∧ (okL okLabel) x.Labels ∧ (okL okOwner) x.Owners ∧ (okL okT) x.Finalizers ∧ (okL okManager) x.Managers ∧ True
def wMeta (x : Meta) : Nat := wS x.Kind + (wS x.Namespace + (wS x.Name + (wN x.Uid + (wN x.Version + (wN x.Generation + (wN x.Created + (wN x.Deleting + (wN x.DeleteAt + ((wL wLabel) x.Labels + ((wL wOwner) x.Owners + ((wL wS) x.Finalizers + ((wL wManager) x.Managers + 0)))))))))))) + 1
def eMeta (x : Meta) : List D := [.v (.string x.Kind), .v (.string x.Namespace), .v (.string x.Name), .v (.int .i64 x.Uid), .v (.int .i64 x.Version), .v (.int .i64 x.Generation), .v (.int .i64 x.Created), .v (.bool x.Deleting), .v (.int .i64 x.DeleteAt), .sl (x.Labels.map eLabel), .sl (x.Owners.map eOwner), .sl (x.Finalizers.map eS), .sl (x.Managers.map eManager)]
structure Object where
  Meta : Meta
  Spec : TValue
  Status : TValue
def okObject (x : Object) : Prop := okMeta x.Meta ∧ okTValue x.Spec ∧ okTValue x.Status ∧ True
def wObject (x : Object) : Nat := wMeta x.Meta + (wTValue x.Spec + (wTValue x.Status + 0)) + 1
def eObject (x : Object) : List D := [.v (.string x.Meta.Kind), .v (.string x.Meta.Namespace), .v (.string x.Meta.Name), .v (.int .i64 x.Meta.Uid), .v (.int .i64 x.Meta.Version), .v (.int .i64 x.Meta.Generation), .v (.int .i64 x.Meta.Created), .v (.bool x.Meta.Deleting), .v (.int .i64 x.Meta.DeleteAt), .sl (x.Meta.Labels.map eLabel), .sl (x.Meta.Owners.map eOwner), .sl (x.Meta.Finalizers.map eS), .sl (x.Meta.Managers.map eManager), .v (.int .i64 x.Spec.Kind), .v (.int .i64 x.Spec.N), .v (.string x.Spec.S), .sl (x.Spec.List_.map eTValue), .sl (x.Spec.Fields.map eTField), .v (.int .i64 x.Status.Kind), .v (.int .i64 x.Status.N), .v (.string x.Status.S), .sl (x.Status.List_.map eTValue), .sl (x.Status.Fields.map eTField)]
structure TOp where
  Kind : Int
  O : Object
  Key : ByteArray
  Version : Int
  Now : Int
  Rev : Int
def okTOp (x : TOp) : Prop := okN x.Kind ∧ okObject x.O ∧ okT x.Key ∧ okN x.Version ∧ okN x.Now ∧ okN x.Rev ∧ True
def wTOp (x : TOp) : Nat := wN x.Kind + (wObject x.O + (wS x.Key + (wN x.Version + (wN x.Now + (wN x.Rev + 0))))) + 1
def eTOp (x : TOp) : List D := [.v (.int .i64 x.Kind), .v (.string x.O.Meta.Kind), .v (.string x.O.Meta.Namespace), .v (.string x.O.Meta.Name), .v (.int .i64 x.O.Meta.Uid), .v (.int .i64 x.O.Meta.Version), .v (.int .i64 x.O.Meta.Generation), .v (.int .i64 x.O.Meta.Created), .v (.bool x.O.Meta.Deleting), .v (.int .i64 x.O.Meta.DeleteAt), .sl (x.O.Meta.Labels.map eLabel), .sl (x.O.Meta.Owners.map eOwner), .sl (x.O.Meta.Finalizers.map eS), .sl (x.O.Meta.Managers.map eManager), .v (.int .i64 x.O.Spec.Kind), .v (.int .i64 x.O.Spec.N), .v (.string x.O.Spec.S), .sl (x.O.Spec.List_.map eTValue), .sl (x.O.Spec.Fields.map eTField), .v (.int .i64 x.O.Status.Kind), .v (.int .i64 x.O.Status.N), .v (.string x.O.Status.S), .sl (x.O.Status.List_.map eTValue), .sl (x.O.Status.Fields.map eTField), .v (.string x.Key), .v (.int .i64 x.Version), .v (.int .i64 x.Now), .v (.int .i64 x.Rev)]
structure Change where
  Rev : Int
  Kind : Int
  Object : Object
def okChange (x : Change) : Prop := okN x.Rev ∧ okN x.Kind ∧ okObject x.Object ∧ True
def wChange (x : Change) : Nat := wN x.Rev + (wN x.Kind + (wObject x.Object + 0)) + 1
def eChange (x : Change) : List D := [.v (.int .i64 x.Rev), .v (.int .i64 x.Kind), .v (.string x.Object.Meta.Kind), .v (.string x.Object.Meta.Namespace), .v (.string x.Object.Meta.Name), .v (.int .i64 x.Object.Meta.Uid), .v (.int .i64 x.Object.Meta.Version), .v (.int .i64 x.Object.Meta.Generation), .v (.int .i64 x.Object.Meta.Created), .v (.bool x.Object.Meta.Deleting), .v (.int .i64 x.Object.Meta.DeleteAt), .sl (x.Object.Meta.Labels.map eLabel), .sl (x.Object.Meta.Owners.map eOwner), .sl (x.Object.Meta.Finalizers.map eS), .sl (x.Object.Meta.Managers.map eManager), .v (.int .i64 x.Object.Spec.Kind), .v (.int .i64 x.Object.Spec.N), .v (.string x.Object.Spec.S), .sl (x.Object.Spec.List_.map eTValue), .sl (x.Object.Spec.Fields.map eTField), .v (.int .i64 x.Object.Status.Kind), .v (.int .i64 x.Object.Status.N), .v (.string x.Object.Status.S), .sl (x.Object.Status.List_.map eTValue), .sl (x.Object.Status.Fields.map eTField)]
structure TStore where
  Rev : Int
  Floor : Int
  NextUid : Int
  Base : (List Object)
  Objects : (List Object)
  History : (List Change)
def okTStore (x : TStore) : Prop := okN x.Rev ∧ okN x.Floor ∧ okN x.NextUid ∧ (okL okObject) x.Base ∧ (okL okObject) x.Objects ∧ (okL okChange) x.History ∧ True
def wTStore (x : TStore) : Nat := wN x.Rev + (wN x.Floor + (wN x.NextUid + ((wL wObject) x.Base + ((wL wObject) x.Objects + ((wL wChange) x.History + 0))))) + 1
def eTStore (x : TStore) : List D := [.v (.int .i64 x.Rev), .v (.int .i64 x.Floor), .v (.int .i64 x.NextUid), .sl (x.Base.map eObject), .sl (x.Objects.map eObject), .sl (x.History.map eChange)]
structure Anon82 where
  a0 : ByteArray
  a1 : ByteArray
  a2 : ByteArray
  deriving DecidableEq
def okAnon82 (x : Anon82) : Prop := okT x.a0 ∧ okT x.a1 ∧ okT x.a2 ∧ True
def wAnon82 (x : Anon82) : Nat := wS x.a0 + (wS x.a1 + (wS x.a2 + 0)) + 1
def eAnon82 (x : Anon82) : List D := [.v (.string x.a0), .v (.string x.a1), .v (.string x.a2)]
def EE := PLift.up (And.intro (And.intro (And.intro (And.intro @eI.eq_1 @eB.eq_1) (And.intro @eS.eq_1 @eK.eq_1)) (And.intro (And.intro @eL.eq_1 @eTField_u) (And.intro @eTValue_u @eLabel.eq_1))) (And.intro (And.intro (And.intro @eOwner.eq_1 @eManager.eq_1) (And.intro @eMeta.eq_1 @eObject.eq_1)) (And.intro (And.intro @eTOp.eq_1 @eChange.eq_1) (And.intro @eTStore.eq_1 @eAnon82.eq_1))))
theorem eM {n m : Nat} {Q : XT → St → Prop} {R : St → Prop} {s' : St} {sl : List (Nat × AV)} {H' : List (Option Blk)} (σ : Src) (hR : R ⟨sl, H'⟩) (hB : shBs s'.heap σ H' σ H' := by simp only [ZZ.down, Nat.reduceEqDiff, reduceCtorEq, Nat.reduceAdd, Nat.reduceLeDiff, Nat.reduceLT, Nat.reduceBNe, EE.down]) (hk : keepS 0 (s'.heap.take m) σ H' := by simp only [ZZ.down, Nat.reduceEqDiff, reduceCtorEq, Nat.reduceAdd, Nat.reduceLeDiff, Nat.reduceLT, Nat.reduceBNe, EE.down]) (hs : shSl s'.heap σ H' s'.slots sl := by simp only [ZZ.down, Nat.reduceEqDiff, reduceCtorEq, Nat.reduceAdd, Nat.reduceLeDiff, Nat.reduceLT, Nat.reduceBNe, EE.down]) (hn : nodupS σ = true := by rfl) : sM n m R Q .normal s' := endM σ ⟨hB, hn, hk⟩ hs hR
theorem eL' {n m : Nat} {Q : XT → St → Prop} {I : Nat → St → Prop} {j : Nat} (k' : Nat) {s' : St} {sl : List (Nat × AV)} {H' : List (Option Blk)} (σ : Src) (hI : I k' ⟨sl, H'⟩) (hj : k' < j) (hB : shBs s'.heap σ H' σ H' := by simp only [ZZ.down, Nat.reduceEqDiff, reduceCtorEq, Nat.reduceAdd, Nat.reduceLeDiff, Nat.reduceLT, Nat.reduceBNe, EE.down]) (hk : keepS 0 (s'.heap.take m) σ H' := by simp only [ZZ.down, Nat.reduceEqDiff, reduceCtorEq, Nat.reduceAdd, Nat.reduceLeDiff, Nat.reduceLT, Nat.reduceBNe, EE.down]) (hs : shSl s'.heap σ H' s'.slots sl := by simp only [ZZ.down, Nat.reduceEqDiff, reduceCtorEq, Nat.reduceAdd, Nat.reduceLeDiff, Nat.reduceLT, Nat.reduceBNe, EE.down]) (hn : nodupS σ = true := by rfl) : sL n m I j Q .normal s' := endL k' hj σ ⟨hB, hn, hk⟩ hs hI
theorem bL {P : Program} {n m : Nat} {Q : XT → St → Prop} {s : St} {k : List Frm} {body : AC} (I : Nat → St → Prop) (k0 : Nat) {sl : List (Nat × AV)} {H' : List (Option Blk)} (σ : Src) (hI : I k0 ⟨sl, H'⟩) (hr : ∀ j s, I j s → sK P n m body [] (sL n m I j (sU P n m k Q)) s) (hB : shBs s.heap σ H' σ H' := by simp only [ZZ.down, Nat.reduceEqDiff, reduceCtorEq, Nat.reduceAdd, Nat.reduceLeDiff, Nat.reduceLT, Nat.reduceBNe, EE.down]) (hk : keepS 0 (s.heap.take m) σ H' := by simp only [ZZ.down, Nat.reduceEqDiff, reduceCtorEq, Nat.reduceAdd, Nat.reduceLeDiff, Nat.reduceLT, Nat.reduceBNe, EE.down]) (hs : shSl s.heap σ H' s.slots sl := by simp only [ZZ.down, Nat.reduceEqDiff, reduceCtorEq, Nat.reduceAdd, Nat.reduceLeDiff, Nat.reduceLT, Nat.reduceBNe, EE.down]) (hn : nodupS σ = true := by rfl) : WpC P n m (.loop body) (sU P n m k Q) s := begL I k0 σ ⟨hB, hn, hk⟩ hs hI hr
theorem eF {m : Nat} {h : List (Option Blk)} {l res : List A1} {H' : List (Option Blk)} (σ : Src) (hB : shBs h σ H' σ H' := by simp only [ZZ.down, Nat.reduceEqDiff, reduceCtorEq, Nat.reduceAdd, Nat.reduceLeDiff, Nat.reduceLT, Nat.reduceBNe, EE.down]) (hk : keepS 0 (h.take m) σ H' := by simp only [ZZ.down, Nat.reduceEqDiff, reduceCtorEq, Nat.reduceAdd, Nat.reduceLeDiff, Nat.reduceLT, Nat.reduceBNe, EE.down]) (hs : shAs h σ H' res l := by simp only [ZZ.down, Nat.reduceEqDiff, reduceCtorEq, Nat.reduceAdd, Nat.reduceLeDiff, Nat.reduceLT, Nat.reduceBNe, EE.down]) (hn : nodupS σ = true := by rfl) : Fin m h l res H' := fin_sh σ ⟨hB, hn, hk⟩ hs
abbrev dI (n : Int) : C := .d (.v (.int .i64 n))
abbrev dS (s : ByteArray) : C := .d (.v (.string s))
abbrev dB (b : Bool) : C := .d (.v (.bool b))
abbrev dN : C := .d (.v (.slice none 0 0))
abbrev dM (l : List (List D)) : C := .d (.sl l)
abbrev sq (d : Nat) (op : AOp) : AStep := ⟨some d, none, op, [], .new []⟩
abbrev su (op : AOp) : AStep := ⟨none, none, op, [], .new []⟩
abbrev sd (d : Nat) (op : AOp) (b : List Nat) : AStep := ⟨some d, none, op, b, .new []⟩
theorem ww {p q : Prop} (hq : q) (h : p = q := by first | (simp only [VW.down, Nat.reduceEqDiff, reduceCtorEq, Nat.reduceAdd, Nat.reduceLeDiff, Nat.reduceLT, Nat.reduceBEq, Nat.reduceSub, EE.down]; rfl) | rfl) : p := Eq.mpr h hq
theorem bi {α β : Type} {b : β} {x : Option α} {f : α → Option β} (h : x.bind f = some b) : ∃ a, x = some a ∧ f a = some b := Option.bind_eq_some_iff.1 h
theorem cN {P : Program} {f : FuncId} {as' : List A1} {H H' : List (Option Blk)} {res : AV} {as0 : List A1} {s : St} {K : Out → Prop} (ρ : List Nat)
    (hc : CallD P f as' H res H') (hH : passAll s.heap (rn ρ s.heap.length) (hp H) 0 H) (hK : K ⟨some (res.ren (rn ρ s.heap.length)), tailWr 0 H' (rn ρ s.heap.length)⟩)
    (has : as0.map nrmA = as'.map (A1.ren (rn ρ s.heap.length)) := by first | rfl | simp [nrmA, nrmC, nrm, A1.ren, C.ren, rn, List.length_set]) (hlive : liveAll (hp H) as' := by simp [liveAll, A1.live, C.live, hp]) (hρ : ρ.length = H.length := by rfl) (hnd : ρ.Nodup := by decide) : CallX P f as0 s K :=
  callX_n ρ hc has hlive hρ hnd hH hK
section
variable {P : Program} {n m : Nat} {Q : XT → St → Prop} {a b : AC} {k : List Frm} {s : St} {α : Type} {x y : Option α} {r : Option α}
theorem condSh {p : Prop} [Decidable p] (h : (if p then x else y) = r) (h1 : p → x = r → sK P n m a k Q s) (h0 : ¬ p → y = r → sK P n m b k Q s) : sC P n m (decide p) a b k Q s :=
  condS (fun c => h1 c ((if_pos c).symm.trans h)) fun c => h0 c ((if_neg c).symm.trans h)
theorem condBh {t : Bool} (h : (if t = true then x else y) = r) (h1 : t = true → x = r → sK P n m a k Q s) (h0 : ¬ t = true → y = r → sK P n m b k Q s) : sC P n m t a b k Q s :=
  condB (fun c => h1 c ((if_pos c).symm.trans h)) fun c => h0 c ((if_neg c).symm.trans h)
end
section
variable {P : Program} {dst : Option Nat} {op : AOp} {bef : List Nat} {lone : Lone} {rr : List AStep} {s : St} {K : St → Prop} {g : Nat} {want : Bool} {hh : List (Option Blk)} {i : Nat} {slots : List (Nat × AV)} {wl : List (Nat × List (Nat × Blk))} {α : Type} {x y : Option α} {r : Option α}
theorem guardSh {p : Prop} [Decidable p] (h : (if p then x else y) = r) (h1 : p → x = r → sG P true want dst op rr g s K) (h0 : ¬ p → y = r → sG P false want dst op rr g s K) : sG P (decide p) want dst op rr g s K :=
  guardS (fun c => h1 c ((if_pos c).symm.trans h)) fun c => h0 c ((if_neg c).symm.trans h)
theorem guardSBh {t : Bool} (h : (if t = true then x else y) = r) (h1 : t = true → x = r → sG P true want dst op rr g s K) (h0 : ¬ t = true → y = r → sG P false want dst op rr g s K) : sG P t want dst op rr g s K :=
  guardSB (fun c => h1 c ((if_pos c).symm.trans h)) fun c => h0 c ((if_neg c).symm.trans h)
theorem guardDh {p : Prop} [Decidable p] (h : (if p then x else y) = r) (h1 : p → x = r → sGD P hh true want dst op bef lone rr i g slots wl K) (h0 : ¬ p → y = r → sGD P hh false want dst op bef lone rr i g slots wl K) : sGD P hh (decide p) want dst op bef lone rr i g slots wl K :=
  guardD (fun c => h1 c ((if_pos c).symm.trans h)) fun c => h0 c ((if_neg c).symm.trans h)
theorem guardDBh {t : Bool} (h : (if t = true then x else y) = r) (h1 : t = true → x = r → sGD P hh true want dst op bef lone rr i g slots wl K) (h0 : ¬ t = true → y = r → sGD P hh false want dst op bef lone rr i g slots wl K) : sGD P hh t want dst op bef lone rr i g slots wl K :=
  guardDB (fun c => h1 c ((if_pos c).symm.trans h)) fun c => h0 c ((if_neg c).symm.trans h)
end


/- orchestrator/orchestratorref04.Size -/
def F53_l1 (rc1 : TValue → Option (Int)) : List TValue → Nat → Int → Option (Int)
  | [], o1_1, o1_0 => some o1_0
  | xo1 :: xs, o1_1, o1_0 => (rc1 xo1).bind fun t3 => F53_l1 rc1 xs (o1_1 + 1) ((IntKind.i64.wrap (o1_0 + t3)))
def F53_l5 (rc1 : TValue → Option (Int)) : List TField → Nat → Int → Option (Int)
  | [], o5_1, o5_0 => some o5_0
  | xo5 :: xs, o5_1, o5_0 => (rc1 xo5.V).bind fun t7 => F53_l5 rc1 xs (o5_1 + 1) ((IntKind.i64.wrap (o5_0 + t7)))
def F53 (rc1 : TValue → Option (Int)) (x0 : TValue) : Option (Int) := (((ck (0 ≤ x0.List_.length ∧ x0.List_.length ≤ 4294967290)).bind fun u4 => F53_l1 rc1 x0.List_ 0 1).bind fun o1 => (((ck (0 ≤ x0.Fields.length ∧ x0.Fields.length ≤ 4294967290)).bind fun u8 => F53_l5 rc1 x0.Fields 0 o1).bind fun o5 => some o5))
def a53 : AFn := ⟨38, [(.tmp 2)],
 (.seq (.reg [sq 1 (.box (.t 0)),
sq 2 (.mv (kI 0))])
 (.seq (.reg [sq 3 (.mv (kI 1))])
 (.seq (.seq (.reg [sq 4 (.mv (kI 0))])
 (.sem (.block 0 (.loop (.seq (.seq (.reg [sq 6 (.mv (.t 4)),
sq 7 (.fieldA 3 (.t 1)),
sq 8 (.load none (.t 7)),
sq 9 (.len (.t 8)),
sq 10 (.bin .lss (.t 6) (.t 9))])
 (.cond (.t 10)
 .skip
 (.exit 0)))
 (.seq (.block 1 (.reg [sq 13 (.mv (.t 3)),
sq 14 (.fieldA 3 (.t 1)),
sq 15 (.load none (.t 14)),
sq 16 (.mv (.t 4)),
sq 17 (.indexA 5 (.t 15) (.t 16)),
sq 18 (.load (some 5) (.t 17)),
sq 19 (.call 53 [(.t 18)]),
sq 20 (.bin .add (.t 13) (.t 19)),
sq 3 (.mv (.t 20))]))
 (.reg [sq 11 (.mv (.t 4)),
sq 12 (.bin .add (.t 11) (kI 1)),
sq 4 (.mv (.t 12))])))))))
 (.seq (.seq (.reg [sq 5 (.mv (kI 0))])
 (.sem (.block 2 (.loop (.seq (.seq (.reg [sq 21 (.mv (.t 5)),
sq 22 (.fieldA 4 (.t 1)),
sq 23 (.load none (.t 22)),
sq 24 (.len (.t 23)),
sq 25 (.bin .lss (.t 21) (.t 24))])
 (.cond (.t 25)
 .skip
 (.exit 2)))
 (.seq (.block 3 (.reg [sq 28 (.mv (.t 3)),
sq 29 (.fieldA 4 (.t 1)),
sq 30 (.load none (.t 29)),
sq 31 (.mv (.t 5)),
sq 32 (.indexA 6 (.t 30) (.t 31)),
sq 33 (.fieldA 1 (.t 32)),
sq 34 (.load (some 5) (.t 33)),
sq 35 (.call 53 [(.t 34)]),
sq 36 (.bin .add (.t 28) (.t 35)),
sq 3 (.mv (.t 36))]))
 (.reg [sq 26 (.mv (.t 5)),
sq 27 (.bin .add (.t 26) (kI 1)),
sq 5 (.mv (.t 27))])))))))
 (.seq (.reg [sq 37 (.mv (.t 3)),
sq 2 (.mv (.t 37))])
 .ret)))))⟩
theorem a53_ok : afn Try.prog 53 = some a53.er := by kernel_rfl
theorem F53_ok {rc1 : TValue → Option (Int)} (ih1 : ∀ {x0 : TValue} {r : Int} (h : rc1 x0 = some r), CallD Try.prog 53 [.agg [dI x0.Kind, dI x0.N, dS x0.S, dM (x0.List_.map eTValue), dM (x0.Fields.map eTField)]] [] (tupV [.c (dI r)]) [])  {x0 : TValue} {r : Int} (h : F53 rc1 x0 = some r) : CallD Try.prog 53 [.agg [dI x0.Kind, dI x0.N, dS x0.S, dM (x0.List_.map eTValue), dM (x0.Fields.map eTField)]] [] (tupV [.c (dI r)]) [] := by
 refine callS a53_ok (by simp [a53]) ?_
 rw [F53] at h
 simp only [a53, VW.down, Nat.reduceEqDiff, reduceCtorEq, Nat.reduceAdd, Nat.reduceLeDiff, Nat.reduceLT, Nat.reduceBEq, Nat.reduceSub, EE.down]
 obtain ⟨o1, ho, h⟩ := bi h
 refine cutS (fun s => s = ⟨[(1, .one (.c (.pt 0 0))), (3, .one (.c (dI o1)))], [some (.box [dI x0.Kind, dI x0.N, dS x0.S, dM (x0.List_.map eTValue), dM (x0.Fields.map eTField)])]⟩) ?_ ?_
 ·have h := ho
  clear ho
  obtain ⟨_, hk, h⟩ := bi h
  have hk := ck_some hk
  refine ww ?_
  refine bL (fun j s => ∃ (o1_1 : Nat) (o1_0 : Int), (o1_1 ≤ x0.List_.length ∧ j = x0.List_.length - o1_1) ∧ s = ⟨[(1, .one (.c (.pt 0 0))), (3, .one (.c (dI o1_0))), (4, .one (.c (dI ((o1_1 : Int)))))], [some (.box [dI x0.Kind, dI x0.N, dS x0.S, dM (x0.List_.map eTValue), dM (x0.Fields.map eTField)])]⟩ ∧ F53_l1 rc1 (x0.List_.drop o1_1) o1_1 o1_0 = some o1) (x0.List_.length - 0) [some 0] ⟨0, 1, ⟨hk.1, rfl⟩, rfl, h⟩ ?_
  rintro _ _ ⟨o1_1, o1_0, ⟨hi, rfl⟩, rfl, h⟩
  refine ww ?_
  refine condS (fun c2 => ?_) (fun c2 => ?_)
  ·obtain ⟨xo1, hxo1, hd⟩ := countY (show (o1_1 : Int) < (x0.List_.length : Int) from c2)
   rw [hd, F53_l1] at h
   refine ww ?_
   refine t_idxF (enc := eTValue) (xs := x0.List_) rfl rfl hxo1 (by rw [eTValue_u]; rfl) ?_
   refine ww ?_
   obtain ⟨t3, ht3, h⟩ := bi h
   refine cN [] (ih1 ht3) trivial ?_
   refine ww ?_
   rw [wrapN (by omega)]
   exact eL' (x0.List_.length - (o1_1 + 1)) [some 0] ⟨o1_1 + 1, (IntKind.i64.wrap (o1_0 + t3)), ⟨by omega, rfl⟩, rfl, h⟩ (by omega)
  ·rw [countN (show ¬ ((o1_1 : Int) < (x0.List_.length : Int)) from c2), F53_l1] at h
   refine ww ?_
   cases h
   exact eM [some 0] rfl
 ·rintro _ rfl
  clear ho
  refine ww ?_
  obtain ⟨o5, ho, h⟩ := bi h
  refine cutS (fun s => s = ⟨[(3, .one (.c (dI o5)))], []⟩) ?_ ?_
  ·have h := ho
   clear ho
   obtain ⟨_, hk, h⟩ := bi h
   have hk := ck_some hk
   refine ww ?_
   refine bL (fun j s => ∃ (o5_1 : Nat) (o5_0 : Int), (o5_1 ≤ x0.Fields.length ∧ j = x0.Fields.length - o5_1) ∧ s = ⟨[(1, .one (.c (.pt 0 0))), (3, .one (.c (dI o5_0))), (5, .one (.c (dI ((o5_1 : Int)))))], [some (.box [dI x0.Kind, dI x0.N, dS x0.S, dM (x0.List_.map eTValue), dM (x0.Fields.map eTField)])]⟩ ∧ F53_l5 rc1 (x0.Fields.drop o5_1) o5_1 o5_0 = some o5) (x0.Fields.length - 0) [some 0] ⟨0, o1, ⟨hk.1, rfl⟩, rfl, h⟩ ?_
   rintro _ _ ⟨o5_1, o5_0, ⟨hi, rfl⟩, rfl, h⟩
   refine ww ?_
   refine condS (fun c6 => ?_) (fun c6 => ?_)
   ·obtain ⟨xo5, hxo5, hd⟩ := countY (show (o5_1 : Int) < (x0.Fields.length : Int) from c6)
    rw [hd, F53_l5] at h
    refine ww ?_
    refine t_idxF (enc := eTField) (xs := x0.Fields) rfl rfl hxo5 (by rw [eTField_u]; rfl) ?_
    refine ww ?_
    obtain ⟨t7, ht7, h⟩ := bi h
    refine cN [] (ih1 ht7) trivial ?_
    refine ww ?_
    rw [wrapN (by omega)]
    exact eL' (x0.Fields.length - (o5_1 + 1)) [some 0] ⟨o5_1 + 1, (IntKind.i64.wrap (o5_0 + t7)), ⟨by omega, rfl⟩, rfl, h⟩ (by omega)
   ·rw [countN (show ¬ ((o5_1 : Int) < (x0.Fields.length : Int)) from c6), F53_l5] at h
    refine ww ?_
    cases h
    exact eM [] rfl
  ·rintro _ rfl
   clear ho
   refine ww ?_
   cases h
   exact eF []
def F53k : Nat → TValue → Option (Int)
  | 0 => fun _ => none
  | k + 1 => F53 (F53k k)
theorem F53k_ok (k : Nat) {x0 : TValue} {r : Int} (h : F53k k x0 = some r) : CallD Try.prog 53 [.agg [dI x0.Kind, dI x0.N, dS x0.S, dM (x0.List_.map eTValue), dM (x0.Fields.map eTField)]] [] (tupV [.c (dI r)]) [] := by
  induction k generalizing x0 r with
  | zero => cases (show (none : Option (Int)) = some _ from h)
  | succ k ih => exact F53_ok (fun h => ih h) h

/- orchestrator/orchestratorlaw14.Weight -/
def F24_l1  : List Manager → Nat → Int → Option (Int)
  | [], o1_1, o1_0 => some o1_0
  | xo1 :: xs, o1_1, o1_0 => F24_l1  xs (o1_1 + 1) ((IntKind.i64.wrap (o1_0 + ((xo1.Fields.length : Int)))))
def F24 (x0 : Object) : Option (Int) := (((ck (0 ≤ x0.Meta.Managers.length ∧ x0.Meta.Managers.length ≤ 4294967290)).bind fun u3 => F24_l1 x0.Meta.Managers 0 ((IntKind.i64.wrap (((IntKind.i64.wrap (((IntKind.i64.wrap (((IntKind.i64.wrap (1 + ((x0.Meta.Labels.length : Int))))) + ((x0.Meta.Owners.length : Int))))) + ((x0.Meta.Finalizers.length : Int))))) + ((x0.Meta.Managers.length : Int)))))).bind fun o1 => (F53k 1099511627776 x0.Spec).bind fun t4 => (F53k 1099511627776 x0.Status).bind fun t5 => some ((IntKind.i64.wrap (((IntKind.i64.wrap (o1 + t4))) + t5))))
def a24 : AFn := ⟨52, [(.tmp 2)],
 (.seq (.reg [sq 1 (.box (.t 0)),
sq 2 (.mv (kI 0))])
 (.seq (.reg [sq 5 (.fieldA 0 (.t 1)),
sq 6 (.fieldA 9 (.t 5)),
sq 7 (.load none (.t 6)),
sq 8 (.len (.t 7)),
sq 9 (.bin .add (kI 1) (.t 8)),
sq 10 (.fieldA 0 (.t 1)),
sq 11 (.fieldA 10 (.t 10)),
sq 12 (.load none (.t 11)),
sq 13 (.len (.t 12)),
sq 14 (.bin .add (.t 9) (.t 13)),
sq 15 (.fieldA 0 (.t 1)),
sq 16 (.fieldA 11 (.t 15)),
sq 17 (.load none (.t 16)),
sq 18 (.len (.t 17)),
sq 19 (.bin .add (.t 14) (.t 18)),
sq 20 (.fieldA 0 (.t 1)),
sq 21 (.fieldA 12 (.t 20)),
sq 22 (.load none (.t 21)),
sq 23 (.len (.t 22)),
sq 24 (.bin .add (.t 19) (.t 23)),
sq 3 (.mv (.t 24))])
 (.seq (.seq (.reg [sq 4 (.mv (kI 0))])
 (.sem (.block 0 (.loop (.seq (.seq (.reg [sq 25 (.mv (.t 4)),
sq 26 (.fieldA 0 (.t 1)),
sq 27 (.fieldA 12 (.t 26)),
sq 28 (.load none (.t 27)),
sq 29 (.len (.t 28)),
sq 30 (.bin .lss (.t 25) (.t 29))])
 (.cond (.t 30)
 .skip
 (.exit 0)))
 (.seq (.block 1 (.reg [sq 33 (.mv (.t 3)),
sq 34 (.fieldA 0 (.t 1)),
sq 35 (.fieldA 12 (.t 34)),
sq 36 (.load none (.t 35)),
sq 37 (.mv (.t 4)),
sq 38 (.indexA 2 (.t 36) (.t 37)),
sq 39 (.fieldA 1 (.t 38)),
sq 40 (.load none (.t 39)),
sq 41 (.len (.t 40)),
sq 42 (.bin .add (.t 33) (.t 41)),
sq 3 (.mv (.t 42))]))
 (.reg [sq 31 (.mv (.t 4)),
sq 32 (.bin .add (.t 31) (kI 1)),
sq 4 (.mv (.t 32))])))))))
 (.seq (.regd [sq 43 (.mv (.t 3)),
sq 44 (.fieldA 13 (.t 1)),
sd 45 (.load (some 5) (.t 44)) [1],
⟨(some 46), none, .call 53 [(.t 45)], [1, 2], (.new [1, 2])⟩,
sd 47 (.bin .add (.t 43) (.t 46)) [0, 1, 2, 3],
sq 48 (.fieldA 18 (.t 1)),
sd 49 (.load (some 5) (.t 48)) [5],
⟨(some 50), none, .call 53 [(.t 49)], [1, 2, 3, 5, 6], (.lone [])⟩,
sd 51 (.bin .add (.t 47) (.t 50)) [0, 1, 2, 3, 4, 5, 6, 7],
sd 2 (.mv (.t 51)) [0, 1, 2, 3, 4, 5, 6, 7, 8]])
 .ret))))⟩
theorem a24_ok : afn Try.prog 24 = some a24.er := by kernel_rfl
theorem F24_ok {x0 : Object} {r : Int} (h : F24 x0 = some r) : CallD Try.prog 24 [.agg [dS x0.Meta.Kind, dS x0.Meta.Namespace, dS x0.Meta.Name, dI x0.Meta.Uid, dI x0.Meta.Version, dI x0.Meta.Generation, dI x0.Meta.Created, dB x0.Meta.Deleting, dI x0.Meta.DeleteAt, dM (x0.Meta.Labels.map eLabel), dM (x0.Meta.Owners.map eOwner), dM (x0.Meta.Finalizers.map eS), dM (x0.Meta.Managers.map eManager), dI x0.Spec.Kind, dI x0.Spec.N, dS x0.Spec.S, dM (x0.Spec.List_.map eTValue), dM (x0.Spec.Fields.map eTField), dI x0.Status.Kind, dI x0.Status.N, dS x0.Status.S, dM (x0.Status.List_.map eTValue), dM (x0.Status.Fields.map eTField)]] [] (tupV [.c (dI r)]) [] := by
 refine callS a24_ok (by simp [a24]) ?_
 rw [F24] at h
 simp only [a24, VW.down, Nat.reduceEqDiff, reduceCtorEq, Nat.reduceAdd, Nat.reduceLeDiff, Nat.reduceLT, Nat.reduceBEq, Nat.reduceSub, EE.down]
 obtain ⟨o1, ho, h⟩ := bi h
 refine cutS (fun s => s = ⟨[(1, .one (.c (.pt 0 0))), (3, .one (.c (dI o1)))], [some (.box [dS x0.Meta.Kind, dS x0.Meta.Namespace, dS x0.Meta.Name, dI x0.Meta.Uid, dI x0.Meta.Version, dI x0.Meta.Generation, dI x0.Meta.Created, dB x0.Meta.Deleting, dI x0.Meta.DeleteAt, dM (x0.Meta.Labels.map eLabel), dM (x0.Meta.Owners.map eOwner), dM (x0.Meta.Finalizers.map eS), dM (x0.Meta.Managers.map eManager), dI x0.Spec.Kind, dI x0.Spec.N, dS x0.Spec.S, dM (x0.Spec.List_.map eTValue), dM (x0.Spec.Fields.map eTField), dI x0.Status.Kind, dI x0.Status.N, dS x0.Status.S, dM (x0.Status.List_.map eTValue), dM (x0.Status.Fields.map eTField)])]⟩) ?_ ?_
 ·have h := ho
  clear ho
  obtain ⟨_, hk, h⟩ := bi h
  have hk := ck_some hk
  refine ww ?_
  refine bL (fun j s => ∃ (o1_1 : Nat) (o1_0 : Int), (o1_1 ≤ x0.Meta.Managers.length ∧ j = x0.Meta.Managers.length - o1_1) ∧ s = ⟨[(1, .one (.c (.pt 0 0))), (3, .one (.c (dI o1_0))), (4, .one (.c (dI ((o1_1 : Int)))))], [some (.box [dS x0.Meta.Kind, dS x0.Meta.Namespace, dS x0.Meta.Name, dI x0.Meta.Uid, dI x0.Meta.Version, dI x0.Meta.Generation, dI x0.Meta.Created, dB x0.Meta.Deleting, dI x0.Meta.DeleteAt, dM (x0.Meta.Labels.map eLabel), dM (x0.Meta.Owners.map eOwner), dM (x0.Meta.Finalizers.map eS), dM (x0.Meta.Managers.map eManager), dI x0.Spec.Kind, dI x0.Spec.N, dS x0.Spec.S, dM (x0.Spec.List_.map eTValue), dM (x0.Spec.Fields.map eTField), dI x0.Status.Kind, dI x0.Status.N, dS x0.Status.S, dM (x0.Status.List_.map eTValue), dM (x0.Status.Fields.map eTField)])]⟩ ∧ F24_l1 (x0.Meta.Managers.drop o1_1) o1_1 o1_0 = some o1) (x0.Meta.Managers.length - 0) [some 0] ⟨0, (IntKind.i64.wrap (((IntKind.i64.wrap (((IntKind.i64.wrap (((IntKind.i64.wrap (1 + ((x0.Meta.Labels.length : Int))))) + ((x0.Meta.Owners.length : Int))))) + ((x0.Meta.Finalizers.length : Int))))) + ((x0.Meta.Managers.length : Int)))), ⟨hk.1, rfl⟩, rfl, h⟩ ?_
  rintro _ _ ⟨o1_1, o1_0, ⟨hi, rfl⟩, rfl, h⟩
  refine ww ?_
  refine condS (fun c2 => ?_) (fun c2 => ?_)
  ·obtain ⟨xo1, hxo1, hd⟩ := countY (show (o1_1 : Int) < (x0.Meta.Managers.length : Int) from c2)
   rw [hd, F24_l1] at h
   refine ww ?_
   refine t_idxF (enc := eManager) (xs := x0.Meta.Managers) rfl rfl hxo1 rfl ?_
   refine ww ?_
   rw [wrapN (by omega)]
   exact eL' (x0.Meta.Managers.length - (o1_1 + 1)) [some 0] ⟨o1_1 + 1, (IntKind.i64.wrap (o1_0 + ((xo1.Fields.length : Int)))), ⟨by omega, rfl⟩, rfl, h⟩ (by omega)
  ·rw [countN (show ¬ ((o1_1 : Int) < (x0.Meta.Managers.length : Int)) from c2), F24_l1] at h
   refine ww ?_
   cases h
   exact eM [some 0] rfl
 ·rintro _ rfl
  clear ho
  refine ww ?_
  obtain ⟨t4, ht4, h⟩ := bi h
  refine cN [] (F53k_ok 1099511627776 ht4) trivial ?_
  refine ww ?_
  obtain ⟨t5, ht5, h⟩ := bi h
  refine cN [] (F53k_ok 1099511627776 ht5) trivial ?_
  refine ww ?_
  cases h
  exact eF []

/- orchestrator/orchestratorlaw14.Light -/
def F7_l1 (x0 : (List TOp)) : Nat → Int → Int → Option (Int)
  | 0, _, _ => none
  | k + 1, o1_0, o1_1 => (((if o1_1 < (x0.length : Int) then some (decide (o1_1 ≤ 40)) else some false)).bind fun o2 => (if o2 = true then (rdI x0 o1_1).bind fun y5 => (F24 y5.O).bind fun t6 => F7_l1 x0 k ((IntKind.i64.wrap (o1_0 + t6))) ((IntKind.i64.wrap (o1_1 + 1))) else some o1_0))
def F7 (x0 : (List TOp)) : Option (Bool) := ((F7_l1 x0 1099511627776 0 0).bind fun o1 => (((if (x0.length : Int) ≤ 40 then some (decide (o1 ≤ 1500)) else some false)).bind fun o7 => some o7))
def a7 : AFn := ⟨30, [(.tmp 2)],
 (.seq (.reg [sq 2 (.mv (kB false))])
 (.seq (.reg [sq 3 (.mv (kI 0))])
 (.seq (.seq (.reg [sq 4 (.mv (kI 0))])
 (.sem (.block 0 (.loop (.seq (.seq (.sem (.reg [sq 5 (.mv (.t 4)),
sq 6 (.mv (.t 0)),
sq 7 (.len (.t 6)),
sq 8 (.bin .lss (.t 5) (.t 7)),
sq 9 (.mv (.t 8)),
⟨(some 10), (some (9, true)), .mv (.t 4), [], (.new [])⟩,
⟨(some 11), (some (9, true)), .bin .leq (.t 10) (kI 40), [], (.new [])⟩,
⟨(some 12), none, .pick (.t 9) (.t 11) (kB false), [], (.lone [6])⟩]))
 (.cond (.t 12)
 .skip
 (.exit 0)))
 (.seq (.block 1 (.reg [sq 15 (.mv (.t 3)),
sq 16 (.mv (.t 0)),
sq 17 (.mv (.t 4)),
sq 18 (.indexA 28 (.t 16) (.t 17)),
sq 19 (.fieldA 1 (.t 18)),
sq 20 (.load (some 23) (.t 19)),
sq 21 (.call 24 [(.t 20)]),
sq 22 (.bin .add (.t 15) (.t 21)),
sq 3 (.mv (.t 22))]))
 (.reg [sq 13 (.mv (.t 4)),
sq 14 (.bin .add (.t 13) (kI 1)),
sq 4 (.mv (.t 14))])))))))
 (.seq (.sem (.reg [sq 23 (.mv (.t 0)),
sq 24 (.len (.t 23)),
sq 25 (.bin .leq (.t 24) (kI 40)),
sq 26 (.mv (.t 25)),
⟨(some 27), (some (26, true)), .mv (.t 3), [], (.new [])⟩,
⟨(some 28), (some (26, true)), .bin .leq (.t 27) (kI 1500), [], (.new [])⟩,
sq 29 (.pick (.t 26) (.t 28) (kB false)),
sq 2 (.mv (.t 29))]))
 .ret))))⟩
theorem a7_ok : afn Try.prog 7 = some a7.er := by kernel_rfl
theorem F7_ok {x0 : (List TOp)} {r : Bool} (h : F7 x0 = some r) : CallD Try.prog 7 [.c (dM (x0.map eTOp))] [] (tupV [.c (dB r)]) [] := by
 refine callS a7_ok (by simp [a7]) ?_
 rw [F7] at h
 simp only [a7, VW.down, Nat.reduceEqDiff, reduceCtorEq, Nat.reduceAdd, Nat.reduceLeDiff, Nat.reduceLT, Nat.reduceBEq, Nat.reduceSub, EE.down]
 obtain ⟨o1, ho, h⟩ := bi h
 refine cutS (fun s => s = ⟨[(0, .one (.c (dM (x0.map eTOp)))), (3, .one (.c (dI o1)))], []⟩) ?_ ?_
 ·have h := ho
  clear ho
  refine ww ?_
  refine bL (fun j s => ∃ (o1_0 : Int) (o1_1 : Int), s = ⟨[(0, .one (.c (dM (x0.map eTOp)))), (3, .one (.c (dI o1_0))), (4, .one (.c (dI o1_1)))], []⟩ ∧ F7_l1 x0 j o1_0 o1_1 = some o1) 1099511627776 [] ⟨0, 0, rfl, h⟩ ?_
  rintro j _ ⟨o1_0, o1_1, rfl, h⟩
  cases j with
  | zero => cases (show (none : Option _) = some _ from h)
  | succ j =>
   rw [F7_l1] at h
   refine ww ?_
   obtain ⟨o2, ho, h⟩ := bi h
   refine cutS (fun s => s = ⟨[(0, .one (.c (dM (x0.map eTOp)))), (3, .one (.c (dI o1_0))), (4, .one (.c (dI o1_1))), (12, .one (.c (dB o2)))], []⟩) ?_ ?_
   ·have h := ho
    clear ho
    refine ww ?_
    refine guardSh h (fun g3 h => ?_) (fun g3 h => ?_)
    ·refine ww ?_
     cases h
     exact eM [] rfl
    ·refine ww ?_
     cases h
     exact eM [] rfl
   ·rintro _ rfl
    clear ho
    refine ww ?_
    refine condBh h (fun c4 h => ?_) (fun c4 h => ?_)
    ·refine ww ?_
     obtain ⟨y5, hy5, h⟩ := bi h
     refine t_idxF (enc := eTOp) (xs := x0) rfl rfl hy5 rfl ?_
     refine ww ?_
     obtain ⟨t6, ht6, h⟩ := bi h
     refine cN [] (F24_ok ht6) trivial ?_
     refine ww ?_
     exact eL' j [] ⟨(IntKind.i64.wrap (o1_0 + t6)), (IntKind.i64.wrap (o1_1 + 1)), rfl, h⟩ (Nat.lt_succ_self _)
    ·refine ww ?_
     cases h
     exact eM [] rfl
 ·rintro _ rfl
  clear ho
  refine ww ?_
  obtain ⟨o7, ho, h⟩ := bi h
  refine cutS (fun s => s = ⟨[(2, .one (.c (dB o7)))], []⟩) ?_ ?_
  ·have h := ho
   clear ho
   refine ww ?_
   refine guardSh h (fun g8 h => ?_) (fun g8 h => ?_)
   ·refine ww ?_
    cases h
    exact eM [] rfl
   ·refine ww ?_
    cases h
    exact eM [] rfl
  ·rintro _ rfl
   clear ho
   refine ww ?_
   cases h
   exact eF []

/- orchestrator/store.New -/
def F9  : Option (Unit) := some (())
def a9 : AFn := ⟨2, [(.cell 0 (some 6))],
 (.seq (.reg [⟨(some 0), none, .zbox [dI 0, dI 0, dI 0, dN, dN, dN], [], (.lone [])⟩])
 (.seq (.reg [sq 1 (.build [dI 0, dI 0, dI 0, dN, dN, dN] [(2, 1, (kI 1))]),
su (.store 6 (.t 0) (.t 1))])
 .ret))⟩
theorem a9_ok : afn Try.prog 9 = some a9.er := by kernel_rfl
theorem F9_ok {r : Unit} (h : F9 = some r) : CallD Try.prog 9 [] [] (tupV [.agg [dI 0, dI 0, dI 1, dM (([] : List Object).map eObject), dM (([] : List Object).map eObject), dM (([] : List Change).map eChange)]]) [] := by
 refine callS a9_ok (by simp [a9]) ?_
 rw [F9] at h
 simp only [a9, VW.down, Nat.reduceEqDiff, reduceCtorEq, Nat.reduceAdd, Nat.reduceLeDiff, Nat.reduceLT, Nat.reduceBEq, Nat.reduceSub, EE.down]
 cases h
 exact eF []

/- orchestrator/orchestratorlaw14.pod -/
def F26 (x0 : ByteArray) (x1 : Int) : Option (Unit) := some (())
def a26 : AFn := ⟨10, [(.cell 4 (some 23))],
 (.seq (.reg [⟨(some 4), none, .zbox [dS ⟨#[]⟩, dS ⟨#[]⟩, dS ⟨#[]⟩, dI 0, dI 0, dI 0, dI 0, dB false, dI 0, dN, dN, dN, dN, dI 0, dI 0, dS ⟨#[]⟩, dN, dN, dI 0, dI 0, dS ⟨#[]⟩, dN, dN], [], (.lone [])⟩])
 (.seq (.reg [sq 5 (.mv (.t 0)),
sq 6 (.build [dS ⟨#[]⟩, dS ⟨#[]⟩, dS ⟨#[]⟩, dI 0, dI 0, dI 0, dI 0, dB false, dI 0, dN, dN, dN, dN] [(0, 1, (kS ⟨#[80, 111, 100]⟩)), (1, 1, (kS ⟨#[110]⟩)), (2, 1, (.t 5))]),
sq 7 (.mv (.t 1)),
sq 8 (.build [dI 0, dI 0, dS ⟨#[]⟩, dN, dN] [(0, 1, (kI 2)), (1, 1, (.t 7))]),
sq 9 (.build [dS ⟨#[]⟩, dS ⟨#[]⟩, dS ⟨#[]⟩, dI 0, dI 0, dI 0, dI 0, dB false, dI 0, dN, dN, dN, dN, dI 0, dI 0, dS ⟨#[]⟩, dN, dN, dI 0, dI 0, dS ⟨#[]⟩, dN, dN] [(0, 13, (.t 6)), (13, 5, (.t 8))]),
su (.store 23 (.t 4) (.t 9))])
 .ret))⟩
theorem a26_ok : afn Try.prog 26 = some a26.er := by kernel_rfl
theorem F26_ok {x0 : ByteArray} {x1 : Int} {r : Unit} (h : F26 x0 x1 = some r) : CallD Try.prog 26 [.c (dS x0), .c (dI x1)] [] (tupV [.agg [dS ((⟨#[80, 111, 100]⟩ : ByteArray)), dS ((⟨#[110]⟩ : ByteArray)), dS x0, dI 0, dI 0, dI 0, dI 0, dB false, dI 0, dM (([] : List Label).map eLabel), dM (([] : List Owner).map eOwner), dM (([] : List ByteArray).map eS), dM (([] : List Manager).map eManager), dI 2, dI x1, dS ((⟨#[]⟩ : ByteArray)), dM (([] : List TValue).map eTValue), dM (([] : List TField).map eTField), dI 0, dI 0, dS ((⟨#[]⟩ : ByteArray)), dM (([] : List TValue).map eTValue), dM (([] : List TField).map eTField)]]) [] := by
 refine callS a26_ok (by simp [a26]) ?_
 rw [F26] at h
 simp only [a26, VW.down, Nat.reduceEqDiff, reduceCtorEq, Nat.reduceAdd, Nat.reduceLeDiff, Nat.reduceLT, Nat.reduceBEq, Nat.reduceSub, EE.down]
 cases h
 exact eF []

/- orchestrator/meta.Key -/
def F61 (x0 : ByteArray) (x1 : ByteArray) (x2 : ByteArray) : Option (ByteArray) := (catI x0 ((⟨#[47]⟩ : ByteArray))).bind fun s1 => (catI s1 x1).bind fun s2 => (catI s2 ((⟨#[47]⟩ : ByteArray))).bind fun s3 => (catI s3 x2).bind fun s4 => some s4
def a61 : AFn := ⟨14, [(.tmp 6)],
 (.seq (.reg [sq 6 (.mv (kS ⟨#[]⟩))])
 (.seq (.reg [sq 7 (.mv (.t 0)),
sq 8 (.bin .add (.t 7) (kS ⟨#[47]⟩)),
sq 9 (.mv (.t 1)),
sq 10 (.bin .add (.t 8) (.t 9)),
sq 11 (.bin .add (.t 10) (kS ⟨#[47]⟩)),
sq 12 (.mv (.t 2)),
sq 13 (.bin .add (.t 11) (.t 12)),
sq 6 (.mv (.t 13))])
 .ret))⟩
theorem a61_ok : afn Try.prog 61 = some a61.er := by kernel_rfl
theorem F61_ok {x0 : ByteArray} {x1 : ByteArray} {x2 : ByteArray} {r : ByteArray} (h : F61 x0 x1 x2 = some r) : CallD Try.prog 61 [.c (dS x0), .c (dS x1), .c (dS x2)] [] (tupV [.c (dS r)]) [] := by
 refine callS a61_ok (by simp [a61]) ?_
 rw [F61] at h
 simp only [a61, VW.down, Nat.reduceEqDiff, reduceCtorEq, Nat.reduceAdd, Nat.reduceLeDiff, Nat.reduceLT, Nat.reduceBEq, Nat.reduceSub, EE.down]
 obtain ⟨s1, hs1, h⟩ := bi h
 obtain ⟨hle, es1⟩ := cat_some hs1
 refine ⟨hle, ?_⟩
 first | rw [← es1] | subst es1
 refine ww ?_
 obtain ⟨s2, hs2, h⟩ := bi h
 obtain ⟨hle, es2⟩ := cat_some hs2
 refine ⟨hle, ?_⟩
 first | rw [← es2] | subst es2
 refine ww ?_
 obtain ⟨s3, hs3, h⟩ := bi h
 obtain ⟨hle, es3⟩ := cat_some hs3
 refine ⟨hle, ?_⟩
 first | rw [← es3] | subst es3
 refine ww ?_
 obtain ⟨s4, hs4, h⟩ := bi h
 obtain ⟨hle, es4⟩ := cat_some hs4
 refine ⟨hle, ?_⟩
 first | rw [← es4] | subst es4
 refine ww ?_
 cases h
 exact eF []

/- orchestrator/meta.KeyOf -/
def F33 (x0 : Meta) : Option (ByteArray) := (F61 x0.Kind x0.Namespace x0.Name).bind fun t1 => some t1
def a33 : AFn := ⟨10, [(.tmp 2)],
 (.seq (.reg [sq 1 (.box (.t 0)),
sq 2 (.mv (kS ⟨#[]⟩))])
 (.seq (.reg [sq 3 (.fieldA 0 (.t 1)),
sq 4 (.load none (.t 3)),
sq 5 (.fieldA 1 (.t 1)),
sq 6 (.load none (.t 5)),
sq 7 (.fieldA 2 (.t 1)),
sq 8 (.load none (.t 7)),
sq 9 (.call 61 [(.t 4), (.t 6), (.t 8)]),
sq 2 (.mv (.t 9))])
 .ret))⟩
theorem a33_ok : afn Try.prog 33 = some a33.er := by kernel_rfl
theorem F33_ok {x0 : Meta} {r : ByteArray} (h : F33 x0 = some r) : CallD Try.prog 33 [.agg [dS x0.Kind, dS x0.Namespace, dS x0.Name, dI x0.Uid, dI x0.Version, dI x0.Generation, dI x0.Created, dB x0.Deleting, dI x0.DeleteAt, dM (x0.Labels.map eLabel), dM (x0.Owners.map eOwner), dM (x0.Finalizers.map eS), dM (x0.Managers.map eManager)]] [] (tupV [.c (dS r)]) [] := by
 refine callS a33_ok (by simp [a33]) ?_
 rw [F33] at h
 simp only [a33, VW.down, Nat.reduceEqDiff, reduceCtorEq, Nat.reduceAdd, Nat.reduceLeDiff, Nat.reduceLT, Nat.reduceBEq, Nat.reduceSub, EE.down]
 obtain ⟨t1, ht1, h⟩ := bi h
 refine cN [] (F61_ok ht1) trivial ?_
 refine ww ?_
 cases h
 exact eF []

/- strings.Compare's own -/
noncomputable def fn109 : Func := (Try.prog.funcs[109]?).getD default
theorem fn109_ok : Try.prog.funcs[109]? = some fn109 := by kernel_rfl
theorem F109_ok {a b : ByteArray} {r : Int} (h : cmpS a b = some r) : CallD Try.prog 109 [.c (dS a), .c (dS b)] [] (tupV [.c (dI r)]) [] := L_cmp fn109_ok (by kernel_rfl) (by kernel_rfl) (by kernel_rfl) (by kernel_rfl) h

/- internal/bytealg.CompareString -/
def F97 (x0 : ByteArray) (x1 : ByteArray) : Option (Int) := (cmpS x0 x1).bind fun t1 => some t1
def a97 : AFn := ⟨8, [(.tmp 4)],
 (.seq (.reg [sq 4 (.mv (kI 0))])
 (.seq (.reg [sq 5 (.mv (.t 0)),
sq 6 (.mv (.t 1)),
sq 7 (.call 109 [(.t 5), (.t 6)]),
sq 4 (.mv (.t 7))])
 .ret))⟩
theorem a97_ok : afn Try.prog 97 = some a97.er := by kernel_rfl
theorem F97_ok {x0 : ByteArray} {x1 : ByteArray} {r : Int} (h : F97 x0 x1 = some r) : CallD Try.prog 97 [.c (dS x0), .c (dS x1)] [] (tupV [.c (dI r)]) [] := by
 refine callS a97_ok (by simp [a97]) ?_
 rw [F97] at h
 simp only [a97, VW.down, Nat.reduceEqDiff, reduceCtorEq, Nat.reduceAdd, Nat.reduceLeDiff, Nat.reduceLT, Nat.reduceBEq, Nat.reduceSub, EE.down]
 obtain ⟨t1, ht1, h⟩ := bi h
 refine cN [] (F109_ok ht1) trivial ?_
 refine ww ?_
 cases h
 exact eF []

/- strings.Compare -/
def F73 (x0 : ByteArray) (x1 : ByteArray) : Option (Int) := (F97 x0 x1).bind fun t1 => some t1
def a73 : AFn := ⟨8, [(.tmp 4)],
 (.seq (.reg [sq 4 (.mv (kI 0))])
 (.seq (.reg [sq 5 (.mv (.t 0)),
sq 6 (.mv (.t 1)),
sq 7 (.call 97 [(.t 5), (.t 6)]),
sq 4 (.mv (.t 7))])
 .ret))⟩
theorem a73_ok : afn Try.prog 73 = some a73.er := by kernel_rfl
theorem F73_ok {x0 : ByteArray} {x1 : ByteArray} {r : Int} (h : F73 x0 x1 = some r) : CallD Try.prog 73 [.c (dS x0), .c (dS x1)] [] (tupV [.c (dI r)]) [] := by
 refine callS a73_ok (by simp [a73]) ?_
 rw [F73] at h
 simp only [a73, VW.down, Nat.reduceEqDiff, reduceCtorEq, Nat.reduceAdd, Nat.reduceLeDiff, Nat.reduceLT, Nat.reduceBEq, Nat.reduceSub, EE.down]
 obtain ⟨t1, ht1, h⟩ := bi h
 refine cN [] (F97_ok ht1) trivial ?_
 refine ww ?_
 cases h
 exact eF []

/- orchestrator/store.find$1 -/
def F72 (x0 : Object) (x1 : ByteArray) : Option (Int) := (F33 x0.Meta).bind fun t1 => (F73 t1 x1).bind fun t2 => some t2
def a72 : AFn := ⟨10, [(.tmp 4)],
 (.seq (.reg [sq 2 (.box (.t 0)),
sq 4 (.mv (kI 0))])
 (.seq (.reg [sq 5 (.fieldA 0 (.t 2)),
sq 6 (.load (some 13) (.t 5)),
sq 7 (.call 33 [(.t 6)]),
sq 8 (.mv (.t 1)),
sq 9 (.call 73 [(.t 7), (.t 8)]),
sq 4 (.mv (.t 9))])
 .ret))⟩
theorem a72_ok : afn Try.prog 72 = some a72.er := by kernel_rfl
theorem F72_ok {x0 : Object} {x1 : ByteArray} {r : Int} (h : F72 x0 x1 = some r) : CallD Try.prog 72 [.agg [dS x0.Meta.Kind, dS x0.Meta.Namespace, dS x0.Meta.Name, dI x0.Meta.Uid, dI x0.Meta.Version, dI x0.Meta.Generation, dI x0.Meta.Created, dB x0.Meta.Deleting, dI x0.Meta.DeleteAt, dM (x0.Meta.Labels.map eLabel), dM (x0.Meta.Owners.map eOwner), dM (x0.Meta.Finalizers.map eS), dM (x0.Meta.Managers.map eManager), dI x0.Spec.Kind, dI x0.Spec.N, dS x0.Spec.S, dM (x0.Spec.List_.map eTValue), dM (x0.Spec.Fields.map eTField), dI x0.Status.Kind, dI x0.Status.N, dS x0.Status.S, dM (x0.Status.List_.map eTValue), dM (x0.Status.Fields.map eTField)], .c (dS x1)] [] (tupV [.c (dI r)]) [] := by
 refine callS a72_ok (by simp [a72]) ?_
 rw [F72] at h
 simp only [a72, VW.down, Nat.reduceEqDiff, reduceCtorEq, Nat.reduceAdd, Nat.reduceLeDiff, Nat.reduceLT, Nat.reduceBEq, Nat.reduceSub, EE.down]
 obtain ⟨t1, ht1, h⟩ := bi h
 refine cN [] (F33_ok ht1) trivial ?_
 refine ww ?_
 obtain ⟨t2, ht2, h⟩ := bi h
 refine cN [] (F73_ok ht2) trivial ?_
 refine ww ?_
 cases h
 exact eF []

/- slices.BinarySearchFunc[[]orchestrator/api.Object,orchestrator/api.Object,string] -/
def F71_l1 (x0 : (List Object)) (x1 : ByteArray) : Nat → Int → Int → Option (Int)
  | 0, _, _ => none
  | k + 1, o1_0, o1_1 => (if o1_0 < o1_1 then (rdI x0 ((IntKind.i64.wrap ((shrV .u64 ((IntKind.u64.wrap ((IntKind.i64.wrap (o1_0 + o1_1))))) 1))))).bind fun y3 => (F72 y3 x1).bind fun t4 => (if t4 < 0 then F71_l1 x0 x1 k ((IntKind.i64.wrap (((IntKind.i64.wrap ((shrV .u64 ((IntKind.u64.wrap ((IntKind.i64.wrap (o1_0 + o1_1))))) 1)))) + 1))) o1_1 else F71_l1 x0 x1 k o1_0 ((IntKind.i64.wrap ((shrV .u64 ((IntKind.u64.wrap ((IntKind.i64.wrap (o1_0 + o1_1))))) 1))))) else some o1_0)
def F71 (x0 : (List Object)) (x1 : ByteArray) : Option (Int × Bool) := ((F71_l1 x0 x1 1099511627776 0 ((x0.length : Int))).bind fun o1 => (((if o1 < (x0.length : Int) then (rdI x0 o1).bind fun y8 => (F72 y8 x1).bind fun t9 => some (decide (t9 = 0)) else some false)).bind fun o6 => some ((o1, o6))))
def a71 : AFn := ⟨49, [(.tmp 6), (.tmp 7)],
 (.seq (.reg [sq 6 (.mv (kI 0)),
sq 7 (.mv (kB false))])
 (.seq (.reg [sq 12 (.mv (.t 0)),
sq 13 (.len (.t 12)),
sq 8 (.mv (.t 13))])
 (.seq (.reg [sq 14 (.mv (.t 8)),
sq 9 (.mv (kI 0)),
sq 10 (.mv (.t 14))])
 (.seq (.sem (.block 0 (.loop (.seq (.seq (.reg [sq 15 (.mv (.t 9)),
sq 16 (.mv (.t 10)),
sq 17 (.bin .lss (.t 15) (.t 16))])
 (.cond (.t 17)
 .skip
 (.exit 0)))
 (.block 1 (.seq (.reg [sq 18 (.mv (.t 9)),
sq 19 (.mv (.t 10)),
sq 20 (.bin .add (.t 18) (.t 19)),
sq 21 (.conv .u64 (.t 20)),
sq 22 (.bin .shr (.t 21) (.k (.c (.d (.v (.int .u64 1)))))),
sq 23 (.conv .i64 (.t 22)),
sq 11 (.mv (.t 23))])
 (.seq (.reg [sq 24 (.mv (.t 2)),
sq 25 (.mv (.t 0)),
sq 26 (.mv (.t 11)),
sq 27 (.indexA 23 (.t 25) (.t 26)),
sq 28 (.load (some 23) (.t 27)),
sq 29 (.mv (.t 1)),
sq 30 (.callv (.t 24) [(.t 28), (.t 29)]),
sq 31 (.bin .lss (.t 30) (kI 0))])
 (.cond (.t 31)
 (.reg [sq 32 (.mv (.t 11)),
sq 33 (.bin .add (.t 32) (kI 1)),
sq 9 (.mv (.t 33))])
 (.reg [sq 34 (.mv (.t 11)),
sq 10 (.mv (.t 34))])))))))))
 (.seq (.sem (.reg [sq 35 (.mv (.t 9)),
sq 36 (.mv (.t 9)),
sq 37 (.mv (.t 8)),
sq 38 (.bin .lss (.t 36) (.t 37)),
sq 39 (.mv (.t 38)),
⟨(some 40), (some (39, true)), .mv (.t 2), [], (.new [])⟩,
⟨(some 41), (some (39, true)), .mv (.t 0), [], (.new [])⟩,
⟨(some 42), (some (39, true)), .mv (.t 9), [], (.new [])⟩,
⟨(some 43), (some (39, true)), .indexA 23 (.t 41) (.t 42), [], (.new [])⟩,
⟨(some 44), (some (39, true)), .load (some 23) (.t 43), [], (.new [])⟩,
⟨(some 45), (some (39, true)), .mv (.t 1), [], (.new [])⟩,
⟨(some 46), (some (39, true)), .callv (.t 40) [(.t 44), (.t 45)], [], (.new [])⟩,
⟨(some 47), (some (39, true)), .bin .eql (.t 46) (kI 0), [], (.new [])⟩,
sq 48 (.pick (.t 39) (.t 47) (kB false)),
sq 6 (.mv (.t 35)),
sq 7 (.mv (.t 48))]))
 .ret)))))⟩
theorem a71_ok : afn Try.prog 71 = some a71.er := by kernel_rfl
theorem F71_ok {x0 : (List Object)} {x1 : ByteArray} {r : Int × Bool} (h : F71 x0 x1 = some r) : CallD Try.prog 71 [.c (dM (x0.map eObject)), .c (dS x1), .c (.fn 72 [])] [] (tupV [.c (dI r.1), .c (dB r.2)]) [] := by
 refine callS a71_ok (by simp [a71]) ?_
 rw [F71] at h
 simp only [a71, VW.down, Nat.reduceEqDiff, reduceCtorEq, Nat.reduceAdd, Nat.reduceLeDiff, Nat.reduceLT, Nat.reduceBEq, Nat.reduceSub, EE.down]
 obtain ⟨o1, ho, h⟩ := bi h
 refine cutS (fun s => s = ⟨[(0, .one (.c (dM (x0.map eObject)))), (1, .one (.c (dS x1))), (2, .one (.c (.fn 72 []))), (8, .one (.c (dI ((x0.length : Int))))), (9, .one (.c (dI o1)))], []⟩) ?_ ?_
 ·have h := ho
  clear ho
  refine ww ?_
  refine bL (fun j s => ∃ (o1_0 : Int) (o1_1 : Int), s = ⟨[(0, .one (.c (dM (x0.map eObject)))), (1, .one (.c (dS x1))), (2, .one (.c (.fn 72 []))), (8, .one (.c (dI ((x0.length : Int))))), (9, .one (.c (dI o1_0))), (10, .one (.c (dI o1_1)))], []⟩ ∧ F71_l1 x0 x1 j o1_0 o1_1 = some o1) 1099511627776 [] ⟨0, (x0.length : Int), rfl, h⟩ ?_
  rintro j _ ⟨o1_0, o1_1, rfl, h⟩
  cases j with
  | zero => cases (show (none : Option _) = some _ from h)
  | succ j =>
   rw [F71_l1] at h
   refine ww ?_
   refine condSh h (fun c2 h => ?_) (fun c2 h => ?_)
   ·refine ww ?_
    refine ⟨by decide, ?_⟩
    refine ww ?_
    obtain ⟨y3, hy3, h⟩ := bi h
    refine t_idxF (enc := eObject) (xs := x0) rfl rfl hy3 rfl ?_
    refine ww ?_
    obtain ⟨t4, ht4, h⟩ := bi h
    refine cN [] (F72_ok ht4) trivial ?_
    refine ww ?_
    refine condSh h (fun c5 h => ?_) (fun c5 h => ?_)
    ·refine ww ?_
     exact eL' j [] ⟨(IntKind.i64.wrap (((IntKind.i64.wrap ((shrV .u64 ((IntKind.u64.wrap ((IntKind.i64.wrap (o1_0 + o1_1))))) 1)))) + 1)), o1_1, rfl, h⟩ (Nat.lt_succ_self _)
    ·refine ww ?_
     exact eL' j [] ⟨o1_0, (IntKind.i64.wrap ((shrV .u64 ((IntKind.u64.wrap ((IntKind.i64.wrap (o1_0 + o1_1))))) 1))), rfl, h⟩ (Nat.lt_succ_self _)
   ·refine ww ?_
    cases h
    exact eM [] rfl
 ·rintro _ rfl
  clear ho
  refine ww ?_
  obtain ⟨o6, ho, h⟩ := bi h
  refine cutS (fun s => s = ⟨[(6, .one (.c (dI o1))), (7, .one (.c (dB o6)))], []⟩) ?_ ?_
  ·have h := ho
   clear ho
   refine ww ?_
   refine guardSh h (fun g7 h => ?_) (fun g7 h => ?_)
   ·refine ww ?_
    obtain ⟨y8, hy8, h⟩ := bi h
    refine t_idxF (enc := eObject) (xs := x0) rfl rfl hy8 rfl ?_
    refine ww ?_
    obtain ⟨t9, ht9, h⟩ := bi h
    refine cN [] (F72_ok ht9) trivial ?_
    refine ww ?_
    cases h
    exact eM [] rfl
   ·refine ww ?_
    cases h
    exact eM [] rfl
  ·rintro _ rfl
   clear ho
   refine ww ?_
   cases h
   exact eF []

/- orchestrator/store.find -/
def F51 (x0 : (List Object)) (x1 : ByteArray) : Option (Int × Bool) := (F71 x0 x1).bind fun t1 => some ((t1.1, t1.2))
def a51 : AFn := ⟨11, [(.tmp 4), (.tmp 5)],
 (.seq (.reg [sq 4 (.mv (kI 0)),
sq 5 (.mv (kB false))])
 (.seq (.reg [sq 6 (.mv (.t 0)),
sq 7 (.mv (.t 1)),
sq 8 (.call 71 [(.t 6), (.t 7), (.f 72)]),
sq 9 (.ext (.t 8) 0),
sq 10 (.ext (.t 8) 1),
sq 4 (.mv (.t 9)),
sq 5 (.mv (.t 10))])
 .ret))⟩
theorem a51_ok : afn Try.prog 51 = some a51.er := by kernel_rfl
theorem F51_ok {x0 : (List Object)} {x1 : ByteArray} {r : Int × Bool} (h : F51 x0 x1 = some r) : CallD Try.prog 51 [.c (dM (x0.map eObject)), .c (dS x1)] [] (tupV [.c (dI r.1), .c (dB r.2)]) [] := by
 refine callS a51_ok (by simp [a51]) ?_
 rw [F51] at h
 simp only [a51, VW.down, Nat.reduceEqDiff, reduceCtorEq, Nat.reduceAdd, Nat.reduceLeDiff, Nat.reduceLT, Nat.reduceBEq, Nat.reduceSub, EE.down]
 obtain ⟨t1, ht1, h⟩ := bi h
 refine cN [] (F71_ok ht1) trivial ?_
 refine ww ?_
 cases h
 exact eF []

/- orchestrator/meta.kind -/
def F80_l1 (x0 : ByteArray) : Nat → Int → Option ((Bool) ⊕ (Unit))
  | 0, _ => none
  | k + 1, o1_0 => (if o1_0 < (x0.size : Int) then (byI x0 o1_0).bind fun y3 => (((if 65 ≤ y3 then (if y3 ≤ 90 then some false else (if 0 < o1_0 then (if 97 ≤ y3 then some (decide (¬ (y3 ≤ 122))) else some true) else some true)) else (if 0 < o1_0 then (if 97 ≤ y3 then some (decide (¬ (y3 ≤ 122))) else some true) else some true))).bind fun o4 => (if o4 = true then (some false).map Sum.inl else F80_l1 x0 k ((IntKind.i64.wrap (o1_0 + 1))))) else some (Sum.inr (())))
def F80 (x0 : ByteArray) : Option (Bool) := ((F80_l1 x0 1099511627776 0 : Option ((Bool) ⊕ (Unit))).bind fun o1 => match o1 with | Sum.inl f => some f | Sum.inr po1 => (((if 1 ≤ (x0.size : Int) then some (decide ((x0.size : Int) ≤ 40)) else some false)).bind fun o12 => some o12))
def a80 : AFn := ⟨41, [(.tmp 2)],
 (.seq (.reg [sq 2 (.mv (kB false))])
 (.seq (.seq (.reg [sq 5 (.mv (.t 0)),
sq 6 (.slen (.t 5)),
sq 7 (.mv (kI 0))])
 (.sem (.block 0 (.loop (.seq (.reg [sq 8 (.bin .lss (.t 7) (.t 6))])
 (.seq (.cond (.t 8)
 .skip
 (.exit 0))
 (.seq (.block 1 (.seq (.reg [sq 9 (.mv (.t 7)),
sq 3 (.mv (.t 9))])
 (.seq (.reg [sq 10 (.mv (.t 0)),
sq 11 (.mv (.t 3)),
sq 12 (.sidx (.t 10) (.t 11)),
sq 4 (.mv (.t 12))])
 (.seq (.sem (.reg [sq 13 (.mv (.t 4)),
sq 14 (.bin .geq (.t 13) (.k (.c (.d (.v (.int .u8 65)))))),
sq 15 (.mv (.t 14)),
⟨(some 16), (some (15, true)), .mv (.t 4), [], (.new [])⟩,
⟨(some 17), (some (15, true)), .bin .leq (.t 16) (.k (.c (.d (.v (.int .u8 90))))), [], (.new [])⟩,
sq 18 (.pick (.t 15) (.t 17) (kB false)),
sq 19 (.mv (.t 18)),
⟨(some 20), (some (19, false)), .mv (.t 3), [], (.new [])⟩,
⟨(some 21), (some (19, false)), .bin .gtr (.t 20) (kI 0), [], (.new [])⟩,
⟨(some 22), (some (19, false)), .mv (.t 21), [], (.new [])⟩,
⟨(some 23), (some (22, true)), .mv (.t 4), [], (.new [])⟩,
⟨(some 24), (some (22, true)), .bin .geq (.t 23) (.k (.c (.d (.v (.int .u8 97))))), [], (.new [])⟩,
⟨(some 25), (some (19, false)), .pick (.t 22) (.t 24) (kB false), [], (.new [])⟩,
⟨(some 26), (some (19, false)), .mv (.t 25), [], (.new [])⟩,
⟨(some 27), (some (26, true)), .mv (.t 4), [], (.new [])⟩,
⟨(some 28), (some (26, true)), .bin .leq (.t 27) (.k (.c (.d (.v (.int .u8 122))))), [], (.new [])⟩,
⟨(some 29), (some (19, false)), .pick (.t 26) (.t 28) (kB false), [], (.new [])⟩,
sq 30 (.pick (.t 19) (kB true) (.t 29)),
sq 31 (.not (.t 30))]))
 (.cond (.t 31)
 (.seq (.reg [sq 2 (.mv (kB false))])
 .ret)
 .skip)))))
 (.reg [sq 32 (.bin .add (.t 7) (kI 1)),
sq 7 (.mv (.t 32))]))))))))
 (.seq (.sem (.reg [sq 33 (.mv (.t 0)),
sq 34 (.slen (.t 33)),
sq 35 (.bin .geq (.t 34) (kI 1)),
sq 36 (.mv (.t 35)),
⟨(some 37), (some (36, true)), .mv (.t 0), [], (.new [])⟩,
⟨(some 38), (some (36, true)), .slen (.t 37), [], (.new [])⟩,
⟨(some 39), (some (36, true)), .bin .leq (.t 38) (kI 40), [], (.new [])⟩,
sq 40 (.pick (.t 36) (.t 39) (kB false)),
sq 2 (.mv (.t 40))]))
 .ret)))⟩
theorem a80_ok : afn Try.prog 80 = some a80.er := by kernel_rfl
theorem F80_ok {x0 : ByteArray} {r : Bool} (h : F80 x0 = some r) : CallD Try.prog 80 [.c (dS x0)] [] (tupV [.c (dB r)]) [] := by
 refine callS a80_ok (by simp [a80]) ?_
 rw [F80] at h
 simp only [a80, VW.down, Nat.reduceEqDiff, reduceCtorEq, Nat.reduceAdd, Nat.reduceLeDiff, Nat.reduceLT, Nat.reduceBEq, Nat.reduceSub, EE.down]
 obtain ⟨o1, ho, h⟩ := bi h
 refine cutS (fun s => ∃ po1, o1 = Sum.inr po1 ∧ s = ⟨[(0, .one (.c (dS x0)))], []⟩) ?_ ?_
 ·have h0o1 := h
  have h := ho
  clear ho
  refine ww ?_
  refine bL (fun j s => ∃ (o1_0 : Int), s = ⟨[(0, .one (.c (dS x0))), (6, .one (.c (dI ((x0.size : Int))))), (7, .one (.c (dI o1_0)))], []⟩ ∧ F80_l1 x0 j o1_0 = some o1) 1099511627776 [] ⟨0, rfl, h⟩ ?_
  rintro j _ ⟨o1_0, rfl, h⟩
  cases j with
  | zero => cases (show (none : Option _) = some _ from h)
  | succ j =>
   rw [F80_l1] at h
   refine ww ?_
   refine condSh h (fun c2 h => ?_) (fun c2 h => ?_)
   ·refine ww ?_
    obtain ⟨y3, hy3, h⟩ := bi h
    refine t_sidx rfl rfl hy3 ?_
    refine ww ?_
    obtain ⟨o4, ho, h⟩ := bi h
    refine cutS (fun s => s = ⟨[(0, .one (.c (dS x0))), (6, .one (.c (dI ((x0.size : Int))))), (7, .one (.c (dI o1_0))), (31, .one (.c (dB o4)))], []⟩) ?_ ?_
    ·have h := ho
     clear ho
     refine ww ?_
     refine guardSh h (fun g5 h => ?_) (fun g5 h => ?_)
     ·refine ww ?_
      refine guardSh h (fun g6 h => ?_) (fun g6 h => ?_)
      ·refine ww ?_
       cases h
       exact eM [] rfl
      ·refine ww ?_
       refine guardSh h (fun g7 h => ?_) (fun g7 h => ?_)
       ·refine ww ?_
        refine guardSh h (fun g8 h => ?_) (fun g8 h => ?_)
        ·refine ww ?_
         cases h
         exact eM [] rfl
        ·refine ww ?_
         cases h
         exact eM [] rfl
       ·refine ww ?_
        cases h
        exact eM [] rfl
     ·refine ww ?_
      refine guardSh h (fun g9 h => ?_) (fun g9 h => ?_)
      ·refine ww ?_
       refine guardSh h (fun g10 h => ?_) (fun g10 h => ?_)
       ·refine ww ?_
        cases h
        exact eM [] rfl
       ·refine ww ?_
        cases h
        exact eM [] rfl
      ·refine ww ?_
       cases h
       exact eM [] rfl
    ·rintro _ rfl
     clear ho
     refine ww ?_
     refine condBh h (fun c11 h => ?_) (fun c11 h => ?_)
     ·refine ww ?_
      obtain ⟨fh0o1, hfh0o1, rfl⟩ := Option.map_eq_some_iff.1 h
      have h := hfh0o1.trans h0o1
      cases h
      exact eF []
     ·refine ww ?_
      exact eL' j [] ⟨(IntKind.i64.wrap (o1_0 + 1)), rfl, h⟩ (Nat.lt_succ_self _)
   ·refine ww ?_
    cases h
    exact eM [] ⟨_, rfl, rfl⟩
 ·rintro _ ⟨po1, rfl, rfl⟩
  clear ho
  dsimp only at h
  refine ww ?_
  obtain ⟨o12, ho, h⟩ := bi h
  refine cutS (fun s => s = ⟨[(2, .one (.c (dB o12)))], []⟩) ?_ ?_
  ·have h := ho
   clear ho
   refine ww ?_
   refine guardSh h (fun g13 h => ?_) (fun g13 h => ?_)
   ·refine ww ?_
    cases h
    exact eM [] rfl
   ·refine ww ?_
    cases h
    exact eM [] rfl
  ·rintro _ rfl
   clear ho
   refine ww ?_
   cases h
   exact eF []

/- orchestrator/meta.ValidName -/
def F82_l1 (x0 : ByteArray) : Nat → Int → Option ((Bool) ⊕ (Unit))
  | 0, _ => none
  | k + 1, o1_0 => (if o1_0 < (x0.size : Int) then (byI x0 o1_0).bind fun y3 => (((if 97 ≤ y3 then (if y3 ≤ 122 then some false else (if 48 ≤ y3 then (if y3 ≤ 57 then some false else some (decide (¬ (y3 = 45)))) else some (decide (¬ (y3 = 45))))) else (if 48 ≤ y3 then (if y3 ≤ 57 then some false else some (decide (¬ (y3 = 45)))) else some (decide (¬ (y3 = 45)))))).bind fun o4 => (if o4 = true then (some false).map Sum.inl else F82_l1 x0 k ((IntKind.i64.wrap (o1_0 + 1))))) else some (Sum.inr (())))
def F82 (x0 : ByteArray) : Option (Bool) := ((F82_l1 x0 1099511627776 0 : Option ((Bool) ⊕ (Unit))).bind fun o1 => match o1 with | Sum.inl f => some f | Sum.inr po1 => (((if 1 ≤ (x0.size : Int) then (if (x0.size : Int) ≤ 40 then (byI x0 0).bind fun y15 => (if ¬ (y15 = 45) then (byI x0 ((IntKind.i64.wrap (((x0.size : Int)) - 1)))).bind fun y17 => some (decide (¬ (y17 = 45))) else some false) else some false) else some false)).bind fun o12 => some o12))
def a82 : AFn := ⟨54, [(.tmp 2)],
 (.seq (.reg [sq 2 (.mv (kB false))])
 (.seq (.seq (.reg [sq 5 (.mv (.t 0)),
sq 6 (.slen (.t 5)),
sq 7 (.mv (kI 0))])
 (.sem (.block 0 (.loop (.seq (.reg [sq 8 (.bin .lss (.t 7) (.t 6))])
 (.seq (.cond (.t 8)
 .skip
 (.exit 0))
 (.seq (.block 1 (.seq (.reg [sq 9 (.mv (.t 7)),
sq 3 (.mv (.t 9))])
 (.seq (.reg [sq 10 (.mv (.t 0)),
sq 11 (.mv (.t 3)),
sq 12 (.sidx (.t 10) (.t 11)),
sq 4 (.mv (.t 12))])
 (.seq (.sem (.reg [sq 13 (.mv (.t 4)),
sq 14 (.bin .geq (.t 13) (.k (.c (.d (.v (.int .u8 97)))))),
sq 15 (.mv (.t 14)),
⟨(some 16), (some (15, true)), .mv (.t 4), [], (.new [])⟩,
⟨(some 17), (some (15, true)), .bin .leq (.t 16) (.k (.c (.d (.v (.int .u8 122))))), [], (.new [])⟩,
sq 18 (.pick (.t 15) (.t 17) (kB false)),
sq 19 (.mv (.t 18)),
⟨(some 20), (some (19, false)), .mv (.t 4), [], (.new [])⟩,
⟨(some 21), (some (19, false)), .bin .geq (.t 20) (.k (.c (.d (.v (.int .u8 48))))), [], (.new [])⟩,
⟨(some 22), (some (19, false)), .mv (.t 21), [], (.new [])⟩,
⟨(some 23), (some (22, true)), .mv (.t 4), [], (.new [])⟩,
⟨(some 24), (some (22, true)), .bin .leq (.t 23) (.k (.c (.d (.v (.int .u8 57))))), [], (.new [])⟩,
⟨(some 25), (some (19, false)), .pick (.t 22) (.t 24) (kB false), [], (.new [])⟩,
sq 26 (.pick (.t 19) (kB true) (.t 25)),
sq 27 (.mv (.t 26)),
⟨(some 28), (some (27, false)), .mv (.t 4), [], (.new [])⟩,
⟨(some 29), (some (27, false)), .bin .eql (.t 28) (.k (.c (.d (.v (.int .u8 45))))), [], (.new [])⟩,
sq 30 (.pick (.t 27) (kB true) (.t 29)),
sq 31 (.not (.t 30))]))
 (.cond (.t 31)
 (.seq (.reg [sq 2 (.mv (kB false))])
 .ret)
 .skip)))))
 (.reg [sq 32 (.bin .add (.t 7) (kI 1)),
sq 7 (.mv (.t 32))]))))))))
 (.seq (.sem (.reg [sq 33 (.mv (.t 0)),
sq 34 (.slen (.t 33)),
sq 35 (.bin .geq (.t 34) (kI 1)),
sq 36 (.mv (.t 35)),
⟨(some 37), (some (36, true)), .mv (.t 0), [], (.new [])⟩,
⟨(some 38), (some (36, true)), .slen (.t 37), [], (.new [])⟩,
⟨(some 39), (some (36, true)), .bin .leq (.t 38) (kI 40), [], (.new [])⟩,
sq 40 (.pick (.t 36) (.t 39) (kB false)),
sq 41 (.mv (.t 40)),
⟨(some 42), (some (41, true)), .mv (.t 0), [], (.new [])⟩,
⟨(some 43), (some (41, true)), .sidx (.t 42) (kI 0), [], (.new [])⟩,
⟨(some 44), (some (41, true)), .bin .neq (.t 43) (.k (.c (.d (.v (.int .u8 45))))), [], (.new [])⟩,
sq 45 (.pick (.t 41) (.t 44) (kB false)),
sq 46 (.mv (.t 45)),
⟨(some 47), (some (46, true)), .mv (.t 0), [], (.new [])⟩,
⟨(some 48), (some (46, true)), .mv (.t 0), [], (.new [])⟩,
⟨(some 49), (some (46, true)), .slen (.t 48), [], (.new [])⟩,
⟨(some 50), (some (46, true)), .bin .sub (.t 49) (kI 1), [], (.new [])⟩,
⟨(some 51), (some (46, true)), .sidx (.t 47) (.t 50), [], (.new [])⟩,
⟨(some 52), (some (46, true)), .bin .neq (.t 51) (.k (.c (.d (.v (.int .u8 45))))), [], (.new [])⟩,
sq 53 (.pick (.t 46) (.t 52) (kB false)),
sq 2 (.mv (.t 53))]))
 .ret)))⟩
theorem a82_ok : afn Try.prog 82 = some a82.er := by kernel_rfl
theorem F82_ok {x0 : ByteArray} {r : Bool} (h : F82 x0 = some r) : CallD Try.prog 82 [.c (dS x0)] [] (tupV [.c (dB r)]) [] := by
 refine callS a82_ok (by simp [a82]) ?_
 rw [F82] at h
 simp only [a82, VW.down, Nat.reduceEqDiff, reduceCtorEq, Nat.reduceAdd, Nat.reduceLeDiff, Nat.reduceLT, Nat.reduceBEq, Nat.reduceSub, EE.down]
 obtain ⟨o1, ho, h⟩ := bi h
 refine cutS (fun s => ∃ po1, o1 = Sum.inr po1 ∧ s = ⟨[(0, .one (.c (dS x0)))], []⟩) ?_ ?_
 ·have h0o1 := h
  have h := ho
  clear ho
  refine ww ?_
  refine bL (fun j s => ∃ (o1_0 : Int), s = ⟨[(0, .one (.c (dS x0))), (6, .one (.c (dI ((x0.size : Int))))), (7, .one (.c (dI o1_0)))], []⟩ ∧ F82_l1 x0 j o1_0 = some o1) 1099511627776 [] ⟨0, rfl, h⟩ ?_
  rintro j _ ⟨o1_0, rfl, h⟩
  cases j with
  | zero => cases (show (none : Option _) = some _ from h)
  | succ j =>
   rw [F82_l1] at h
   refine ww ?_
   refine condSh h (fun c2 h => ?_) (fun c2 h => ?_)
   ·refine ww ?_
    obtain ⟨y3, hy3, h⟩ := bi h
    refine t_sidx rfl rfl hy3 ?_
    refine ww ?_
    obtain ⟨o4, ho, h⟩ := bi h
    refine cutS (fun s => s = ⟨[(0, .one (.c (dS x0))), (6, .one (.c (dI ((x0.size : Int))))), (7, .one (.c (dI o1_0))), (31, .one (.c (dB o4)))], []⟩) ?_ ?_
    ·have h := ho
     clear ho
     refine ww ?_
     refine guardSh h (fun g5 h => ?_) (fun g5 h => ?_)
     ·refine ww ?_
      refine guardSh h (fun g6 h => ?_) (fun g6 h => ?_)
      ·refine ww ?_
       cases h
       exact eM [] rfl
      ·refine ww ?_
       refine guardSh h (fun g7 h => ?_) (fun g7 h => ?_)
       ·refine ww ?_
        refine guardSh h (fun g8 h => ?_) (fun g8 h => ?_)
        ·refine ww ?_
         cases h
         exact eM [] rfl
        ·refine ww ?_
         cases h
         exact eM [] rfl
       ·refine ww ?_
        cases h
        exact eM [] rfl
     ·refine ww ?_
      refine guardSh h (fun g9 h => ?_) (fun g9 h => ?_)
      ·refine ww ?_
       refine guardSh h (fun g10 h => ?_) (fun g10 h => ?_)
       ·refine ww ?_
        cases h
        exact eM [] rfl
       ·refine ww ?_
        cases h
        exact eM [] rfl
      ·refine ww ?_
       cases h
       exact eM [] rfl
    ·rintro _ rfl
     clear ho
     refine ww ?_
     refine condBh h (fun c11 h => ?_) (fun c11 h => ?_)
     ·refine ww ?_
      obtain ⟨fh0o1, hfh0o1, rfl⟩ := Option.map_eq_some_iff.1 h
      have h := hfh0o1.trans h0o1
      cases h
      exact eF []
     ·refine ww ?_
      exact eL' j [] ⟨(IntKind.i64.wrap (o1_0 + 1)), rfl, h⟩ (Nat.lt_succ_self _)
   ·refine ww ?_
    cases h
    exact eM [] ⟨_, rfl, rfl⟩
 ·rintro _ ⟨po1, rfl, rfl⟩
  clear ho
  dsimp only at h
  refine ww ?_
  obtain ⟨o12, ho, h⟩ := bi h
  refine cutS (fun s => s = ⟨[(2, .one (.c (dB o12)))], []⟩) ?_ ?_
  ·have h := ho
   clear ho
   refine ww ?_
   refine guardSh h (fun g13 h => ?_) (fun g13 h => ?_)
   ·refine ww ?_
    refine guardSh h (fun g14 h => ?_) (fun g14 h => ?_)
    ·refine ww ?_
     obtain ⟨y15, hy15, h⟩ := bi h
     refine t_sidx rfl rfl hy15 ?_
     refine ww ?_
     refine guardSh h (fun g16 h => ?_) (fun g16 h => ?_)
     ·refine ww ?_
      obtain ⟨y17, hy17, h⟩ := bi h
      refine t_sidx rfl rfl hy17 ?_
      refine ww ?_
      cases h
      exact eM [] rfl
     ·refine ww ?_
      cases h
      exact eM [] rfl
    ·refine ww ?_
     cases h
     exact eM [] rfl
   ·refine ww ?_
    cases h
    exact eM [] rfl
  ·rintro _ rfl
   clear ho
   refine ww ?_
   cases h
   exact eF []

/- orchestrator/meta.space -/
def F81 (x0 : ByteArray) : Option (Bool) := (((if x0 = (⟨#[]⟩ : ByteArray) then some true else (F82 x0).bind fun t3 => some t3)).bind fun o1 => some o1)
def a81 : AFn := ⟨9, [(.tmp 2)],
 (.seq (.reg [sq 2 (.mv (kB false))])
 (.seq (.sem (.reg [sq 3 (.mv (.t 0)),
sq 4 (.bin .eql (.t 3) (kS ⟨#[]⟩)),
sq 5 (.mv (.t 4)),
⟨(some 6), (some (5, false)), .mv (.t 0), [], (.new [])⟩,
⟨(some 7), (some (5, false)), .call 82 [(.t 6)], [], (.new [])⟩,
sq 8 (.pick (.t 5) (kB true) (.t 7)),
sq 2 (.mv (.t 8))]))
 .ret))⟩
theorem a81_ok : afn Try.prog 81 = some a81.er := by kernel_rfl
theorem F81_ok {x0 : ByteArray} {r : Bool} (h : F81 x0 = some r) : CallD Try.prog 81 [.c (dS x0)] [] (tupV [.c (dB r)]) [] := by
 refine callS a81_ok (by simp [a81]) ?_
 rw [F81] at h
 simp only [a81, VW.down, Nat.reduceEqDiff, reduceCtorEq, Nat.reduceAdd, Nat.reduceLeDiff, Nat.reduceLT, Nat.reduceBEq, Nat.reduceSub, EE.down]
 obtain ⟨o1, ho, h⟩ := bi h
 refine cutS (fun s => s = ⟨[(2, .one (.c (dB o1)))], []⟩) ?_ ?_
 ·have h := ho
  clear ho
  refine ww ?_
  refine guardSh h (fun g2 h => ?_) (fun g2 h => ?_)
  ·refine ww ?_
   cases h
   exact eM [] rfl
  ·refine ww ?_
   obtain ⟨t3, ht3, h⟩ := bi h
   refine cN [] (F82_ok ht3) trivial ?_
   refine ww ?_
   cases h
   exact eM [] rfl
 ·rintro _ rfl
  clear ho
  refine ww ?_
  cases h
  exact eF []

/- orchestrator/label.wordByte -/
def F110 (x0 : Int) : Option (Bool) := (((if 97 ≤ x0 then (if x0 ≤ 122 then some true else (if 48 ≤ x0 then (if x0 ≤ 57 then some true else (if x0 = 45 then some true else (if x0 = 46 then some true else some (decide (x0 = 47))))) else (if x0 = 45 then some true else (if x0 = 46 then some true else some (decide (x0 = 47)))))) else (if 48 ≤ x0 then (if x0 ≤ 57 then some true else (if x0 = 45 then some true else (if x0 = 46 then some true else some (decide (x0 = 47))))) else (if x0 = 45 then some true else (if x0 = 46 then some true else some (decide (x0 = 47))))))).bind fun o1 => some o1)
def a110 : AFn := ⟨29, [(.tmp 2)],
 (.seq (.reg [sq 2 (.mv (kB false))])
 (.seq (.sem (.reg [sq 3 (.mv (.t 0)),
sq 4 (.bin .geq (.t 3) (.k (.c (.d (.v (.int .u8 97)))))),
sq 5 (.mv (.t 4)),
⟨(some 6), (some (5, true)), .mv (.t 0), [], (.new [])⟩,
⟨(some 7), (some (5, true)), .bin .leq (.t 6) (.k (.c (.d (.v (.int .u8 122))))), [], (.new [])⟩,
sq 8 (.pick (.t 5) (.t 7) (kB false)),
sq 9 (.mv (.t 8)),
⟨(some 10), (some (9, false)), .mv (.t 0), [], (.new [])⟩,
⟨(some 11), (some (9, false)), .bin .geq (.t 10) (.k (.c (.d (.v (.int .u8 48))))), [], (.new [])⟩,
⟨(some 12), (some (9, false)), .mv (.t 11), [], (.new [])⟩,
⟨(some 13), (some (12, true)), .mv (.t 0), [], (.new [])⟩,
⟨(some 14), (some (12, true)), .bin .leq (.t 13) (.k (.c (.d (.v (.int .u8 57))))), [], (.new [])⟩,
⟨(some 15), (some (9, false)), .pick (.t 12) (.t 14) (kB false), [], (.new [])⟩,
sq 16 (.pick (.t 9) (kB true) (.t 15)),
sq 17 (.mv (.t 16)),
⟨(some 18), (some (17, false)), .mv (.t 0), [], (.new [])⟩,
⟨(some 19), (some (17, false)), .bin .eql (.t 18) (.k (.c (.d (.v (.int .u8 45))))), [], (.new [])⟩,
sq 20 (.pick (.t 17) (kB true) (.t 19)),
sq 21 (.mv (.t 20)),
⟨(some 22), (some (21, false)), .mv (.t 0), [], (.new [])⟩,
⟨(some 23), (some (21, false)), .bin .eql (.t 22) (.k (.c (.d (.v (.int .u8 46))))), [], (.new [])⟩,
sq 24 (.pick (.t 21) (kB true) (.t 23)),
sq 25 (.mv (.t 24)),
⟨(some 26), (some (25, false)), .mv (.t 0), [], (.new [])⟩,
⟨(some 27), (some (25, false)), .bin .eql (.t 26) (.k (.c (.d (.v (.int .u8 47))))), [], (.new [])⟩,
sq 28 (.pick (.t 25) (kB true) (.t 27)),
sq 2 (.mv (.t 28))]))
 .ret))⟩
theorem a110_ok : afn Try.prog 110 = some a110.er := by kernel_rfl
theorem F110_ok {x0 : Int} {r : Bool} (h : F110 x0 = some r) : CallD Try.prog 110 [.c (.d (.v (.int .u8 x0)))] [] (tupV [.c (dB r)]) [] := by
 refine callS a110_ok (by simp [a110]) ?_
 rw [F110] at h
 simp only [a110, VW.down, Nat.reduceEqDiff, reduceCtorEq, Nat.reduceAdd, Nat.reduceLeDiff, Nat.reduceLT, Nat.reduceBEq, Nat.reduceSub, EE.down]
 obtain ⟨o1, ho, h⟩ := bi h
 refine cutS (fun s => s = ⟨[(2, .one (.c (dB o1)))], []⟩) ?_ ?_
 ·have h := ho
  clear ho
  refine ww ?_
  refine guardSh h (fun g2 h => ?_) (fun g2 h => ?_)
  ·refine ww ?_
   refine guardSh h (fun g3 h => ?_) (fun g3 h => ?_)
   ·refine ww ?_
    cases h
    exact eM [] rfl
   ·refine ww ?_
    refine guardSh h (fun g4 h => ?_) (fun g4 h => ?_)
    ·refine ww ?_
     refine guardSh h (fun g5 h => ?_) (fun g5 h => ?_)
     ·refine ww ?_
      cases h
      exact eM [] rfl
     ·refine ww ?_
      refine guardSh h (fun g6 h => ?_) (fun g6 h => ?_)
      ·refine ww ?_
       cases h
       exact eM [] rfl
      ·refine ww ?_
       refine guardSh h (fun g7 h => ?_) (fun g7 h => ?_)
       ·refine ww ?_
        cases h
        exact eM [] rfl
       ·refine ww ?_
        cases h
        exact eM [] rfl
    ·refine ww ?_
     refine guardSh h (fun g8 h => ?_) (fun g8 h => ?_)
     ·refine ww ?_
      cases h
      exact eM [] rfl
     ·refine ww ?_
      refine guardSh h (fun g9 h => ?_) (fun g9 h => ?_)
      ·refine ww ?_
       cases h
       exact eM [] rfl
      ·refine ww ?_
       cases h
       exact eM [] rfl
  ·refine ww ?_
   refine guardSh h (fun g10 h => ?_) (fun g10 h => ?_)
   ·refine ww ?_
    refine guardSh h (fun g11 h => ?_) (fun g11 h => ?_)
    ·refine ww ?_
     cases h
     exact eM [] rfl
    ·refine ww ?_
     refine guardSh h (fun g12 h => ?_) (fun g12 h => ?_)
     ·refine ww ?_
      cases h
      exact eM [] rfl
     ·refine ww ?_
      refine guardSh h (fun g13 h => ?_) (fun g13 h => ?_)
      ·refine ww ?_
       cases h
       exact eM [] rfl
      ·refine ww ?_
       cases h
       exact eM [] rfl
   ·refine ww ?_
    refine guardSh h (fun g14 h => ?_) (fun g14 h => ?_)
    ·refine ww ?_
     cases h
     exact eM [] rfl
    ·refine ww ?_
     refine guardSh h (fun g15 h => ?_) (fun g15 h => ?_)
     ·refine ww ?_
      cases h
      exact eM [] rfl
     ·refine ww ?_
      cases h
      exact eM [] rfl
 ·rintro _ rfl
  clear ho
  refine ww ?_
  cases h
  exact eF []

/- orchestrator/label.validKey -/
def F101_l8 (x0 : ByteArray) : Nat → Int → Option ((Bool) ⊕ (Unit))
  | 0, _ => none
  | k + 1, o8_0 => (if o8_0 < (x0.size : Int) then (byI x0 o8_0).bind fun y10 => (F110 y10).bind fun t11 => (if (nb t11) = true then (some false).map Sum.inl else F101_l8 x0 k ((IntKind.i64.wrap (o8_0 + 1)))) else some (Sum.inr (())))
def F101 (x0 : ByteArray) : Option (Bool) := (((if x0 = (⟨#[]⟩ : ByteArray) then some true else (if 40 < (x0.size : Int) then some true else (byI x0 0).bind fun y4 => (if y4 < 97 then some true else (byI x0 0).bind fun y6 => some (decide (122 < y6)))))).bind fun o1 => (if o1 = true then some false else ((F101_l8 x0 1099511627776 0 : Option ((Bool) ⊕ (Unit))).bind fun o8 => match o8 with | Sum.inl f => some f | Sum.inr po8 => some true)))
def a101 : AFn := ⟨32, [(.tmp 2)],
 (.seq (.reg [sq 2 (.mv (kB false))])
 (.seq (.seq (.sem (.reg [sq 4 (.mv (.t 0)),
sq 5 (.bin .eql (.t 4) (kS ⟨#[]⟩)),
sq 6 (.mv (.t 5)),
⟨(some 7), (some (6, false)), .mv (.t 0), [], (.new [])⟩,
⟨(some 8), (some (6, false)), .slen (.t 7), [], (.new [])⟩,
⟨(some 9), (some (6, false)), .bin .gtr (.t 8) (kI 40), [], (.new [])⟩,
sq 10 (.pick (.t 6) (kB true) (.t 9)),
sq 11 (.mv (.t 10)),
⟨(some 12), (some (11, false)), .mv (.t 0), [], (.new [])⟩,
⟨(some 13), (some (11, false)), .sidx (.t 12) (kI 0), [], (.new [])⟩,
⟨(some 14), (some (11, false)), .bin .lss (.t 13) (.k (.c (.d (.v (.int .u8 97))))), [], (.new [])⟩,
sq 15 (.pick (.t 11) (kB true) (.t 14)),
sq 16 (.mv (.t 15)),
⟨(some 17), (some (16, false)), .mv (.t 0), [], (.new [])⟩,
⟨(some 18), (some (16, false)), .sidx (.t 17) (kI 0), [], (.new [])⟩,
⟨(some 19), (some (16, false)), .bin .gtr (.t 18) (.k (.c (.d (.v (.int .u8 122))))), [], (.new [])⟩,
sq 20 (.pick (.t 16) (kB true) (.t 19))]))
 (.cond (.t 20)
 (.seq (.reg [sq 2 (.mv (kB false))])
 .ret)
 .skip))
 (.seq (.seq (.reg [sq 21 (.mv (.t 0)),
sq 22 (.slen (.t 21)),
sq 23 (.mv (kI 0))])
 (.sem (.block 0 (.loop (.seq (.reg [sq 24 (.bin .lss (.t 23) (.t 22))])
 (.seq (.cond (.t 24)
 .skip
 (.exit 0))
 (.seq (.block 1 (.seq (.reg [sq 25 (.mv (.t 23)),
sq 3 (.mv (.t 25))])
 (.seq (.reg [sq 26 (.mv (.t 0)),
sq 27 (.mv (.t 3)),
sq 28 (.sidx (.t 26) (.t 27)),
sq 29 (.call 110 [(.t 28)]),
sq 30 (.not (.t 29))])
 (.cond (.t 30)
 (.seq (.reg [sq 2 (.mv (kB false))])
 .ret)
 .skip))))
 (.reg [sq 31 (.bin .add (.t 23) (kI 1)),
sq 23 (.mv (.t 31))]))))))))
 (.seq (.reg [sq 2 (.mv (kB true))])
 .ret))))⟩
theorem a101_ok : afn Try.prog 101 = some a101.er := by kernel_rfl
theorem F101_ok {x0 : ByteArray} {r : Bool} (h : F101 x0 = some r) : CallD Try.prog 101 [.c (dS x0)] [] (tupV [.c (dB r)]) [] := by
 refine callS a101_ok (by simp [a101]) ?_
 rw [F101] at h
 simp only [a101, VW.down, Nat.reduceEqDiff, reduceCtorEq, Nat.reduceAdd, Nat.reduceLeDiff, Nat.reduceLT, Nat.reduceBEq, Nat.reduceSub, EE.down]
 obtain ⟨o1, ho, h⟩ := bi h
 refine cutS (fun s => s = ⟨[(0, .one (.c (dS x0))), (20, .one (.c (dB o1)))], []⟩) ?_ ?_
 ·have h := ho
  clear ho
  refine ww ?_
  refine guardSh h (fun g2 h => ?_) (fun g2 h => ?_)
  ·refine ww ?_
   cases h
   exact eM [] rfl
  ·refine ww ?_
   refine guardSh h (fun g3 h => ?_) (fun g3 h => ?_)
   ·refine ww ?_
    cases h
    exact eM [] rfl
   ·refine ww ?_
    obtain ⟨y4, hy4, h⟩ := bi h
    refine t_sidx rfl rfl hy4 ?_
    refine ww ?_
    refine guardSh h (fun g5 h => ?_) (fun g5 h => ?_)
    ·refine ww ?_
     cases h
     exact eM [] rfl
    ·refine ww ?_
     obtain ⟨y6, hy6, h⟩ := bi h
     refine t_sidx rfl rfl hy6 ?_
     refine ww ?_
     cases h
     exact eM [] rfl
 ·rintro _ rfl
  clear ho
  refine ww ?_
  refine condBh h (fun c7 h => ?_) (fun c7 h => ?_)
  ·refine ww ?_
   cases h
   exact eF []
  ·refine ww ?_
   obtain ⟨o8, ho, h⟩ := bi h
   refine cutS (fun s => ∃ po8, o8 = Sum.inr po8 ∧ s = ⟨[], []⟩) ?_ ?_
   ·have h0o8 := h
    have h := ho
    clear ho
    refine ww ?_
    refine bL (fun j s => ∃ (o8_0 : Int), s = ⟨[(0, .one (.c (dS x0))), (22, .one (.c (dI ((x0.size : Int))))), (23, .one (.c (dI o8_0)))], []⟩ ∧ F101_l8 x0 j o8_0 = some o8) 1099511627776 [] ⟨0, rfl, h⟩ ?_
    rintro j _ ⟨o8_0, rfl, h⟩
    cases j with
    | zero => cases (show (none : Option _) = some _ from h)
    | succ j =>
     rw [F101_l8] at h
     refine ww ?_
     refine condSh h (fun c9 h => ?_) (fun c9 h => ?_)
     ·refine ww ?_
      obtain ⟨y10, hy10, h⟩ := bi h
      refine t_sidx rfl rfl hy10 ?_
      refine ww ?_
      obtain ⟨t11, ht11, h⟩ := bi h
      refine cN [] (F110_ok ht11) trivial ?_
      refine ww ?_
      refine condBh h (fun c12 h => ?_) (fun c12 h => ?_)
      ·refine ww ?_
       obtain ⟨fh0o8, hfh0o8, rfl⟩ := Option.map_eq_some_iff.1 h
       have h := hfh0o8.trans h0o8
       cases h
       exact eF []
      ·refine ww ?_
       exact eL' j [] ⟨(IntKind.i64.wrap (o8_0 + 1)), rfl, h⟩ (Nat.lt_succ_self _)
     ·refine ww ?_
      cases h
      exact eM [] ⟨_, rfl, rfl⟩
   ·rintro _ ⟨po8, rfl, rfl⟩
    clear ho
    dsimp only at h
    refine ww ?_
    cases h
    exact eF []

/- orchestrator/label.validValue -/
def F102_l2 (x0 : ByteArray) : Nat → Int → Option ((Bool) ⊕ (Unit))
  | 0, _ => none
  | k + 1, o2_0 => (if o2_0 < (x0.size : Int) then (((byI x0 o2_0).bind fun y5 => (F110 y5).bind fun t6 => (if (nb t6) = true then some true else (byI x0 o2_0).bind fun y8 => some (decide (y8 = 47)))).bind fun o4 => (if o4 = true then (some false).map Sum.inl else F102_l2 x0 k ((IntKind.i64.wrap (o2_0 + 1))))) else some (Sum.inr (())))
def F102 (x0 : ByteArray) : Option (Bool) := (if 40 < (x0.size : Int) then some false else ((F102_l2 x0 1099511627776 0 : Option ((Bool) ⊕ (Unit))).bind fun o2 => match o2 with | Sum.inl f => some f | Sum.inr po2 => some true))
def a102 : AFn := ⟨24, [(.tmp 2)],
 (.seq (.reg [sq 2 (.mv (kB false))])
 (.seq (.seq (.reg [sq 4 (.mv (.t 0)),
sq 5 (.slen (.t 4)),
sq 6 (.bin .gtr (.t 5) (kI 40))])
 (.cond (.t 6)
 (.seq (.reg [sq 2 (.mv (kB false))])
 .ret)
 .skip))
 (.seq (.seq (.reg [sq 7 (.mv (.t 0)),
sq 8 (.slen (.t 7)),
sq 9 (.mv (kI 0))])
 (.sem (.block 0 (.loop (.seq (.reg [sq 10 (.bin .lss (.t 9) (.t 8))])
 (.seq (.cond (.t 10)
 .skip
 (.exit 0))
 (.seq (.block 1 (.seq (.reg [sq 11 (.mv (.t 9)),
sq 3 (.mv (.t 11))])
 (.seq (.sem (.reg [sq 12 (.mv (.t 0)),
sq 13 (.mv (.t 3)),
sq 14 (.sidx (.t 12) (.t 13)),
sq 15 (.call 110 [(.t 14)]),
sq 16 (.not (.t 15)),
sq 17 (.mv (.t 16)),
⟨(some 18), (some (17, false)), .mv (.t 0), [], (.new [])⟩,
⟨(some 19), (some (17, false)), .mv (.t 3), [], (.new [])⟩,
⟨(some 20), (some (17, false)), .sidx (.t 18) (.t 19), [], (.new [])⟩,
⟨(some 21), (some (17, false)), .bin .eql (.t 20) (.k (.c (.d (.v (.int .u8 47))))), [], (.new [])⟩,
sq 22 (.pick (.t 17) (kB true) (.t 21))]))
 (.cond (.t 22)
 (.seq (.reg [sq 2 (.mv (kB false))])
 .ret)
 .skip))))
 (.reg [sq 23 (.bin .add (.t 9) (kI 1)),
sq 9 (.mv (.t 23))]))))))))
 (.seq (.reg [sq 2 (.mv (kB true))])
 .ret))))⟩
theorem a102_ok : afn Try.prog 102 = some a102.er := by kernel_rfl
theorem F102_ok {x0 : ByteArray} {r : Bool} (h : F102 x0 = some r) : CallD Try.prog 102 [.c (dS x0)] [] (tupV [.c (dB r)]) [] := by
 refine callS a102_ok (by simp [a102]) ?_
 rw [F102] at h
 simp only [a102, VW.down, Nat.reduceEqDiff, reduceCtorEq, Nat.reduceAdd, Nat.reduceLeDiff, Nat.reduceLT, Nat.reduceBEq, Nat.reduceSub, EE.down]
 refine condSh h (fun c1 h => ?_) (fun c1 h => ?_)
 ·refine ww ?_
  cases h
  exact eF []
 ·refine ww ?_
  obtain ⟨o2, ho, h⟩ := bi h
  refine cutS (fun s => ∃ po2, o2 = Sum.inr po2 ∧ s = ⟨[], []⟩) ?_ ?_
  ·have h0o2 := h
   have h := ho
   clear ho
   refine ww ?_
   refine bL (fun j s => ∃ (o2_0 : Int), s = ⟨[(0, .one (.c (dS x0))), (8, .one (.c (dI ((x0.size : Int))))), (9, .one (.c (dI o2_0)))], []⟩ ∧ F102_l2 x0 j o2_0 = some o2) 1099511627776 [] ⟨0, rfl, h⟩ ?_
   rintro j _ ⟨o2_0, rfl, h⟩
   cases j with
   | zero => cases (show (none : Option _) = some _ from h)
   | succ j =>
    rw [F102_l2] at h
    refine ww ?_
    refine condSh h (fun c3 h => ?_) (fun c3 h => ?_)
    ·refine ww ?_
     obtain ⟨o4, ho, h⟩ := bi h
     refine cutS (fun s => s = ⟨[(0, .one (.c (dS x0))), (8, .one (.c (dI ((x0.size : Int))))), (9, .one (.c (dI o2_0))), (22, .one (.c (dB o4)))], []⟩) ?_ ?_
     ·have h := ho
      clear ho
      refine ww ?_
      obtain ⟨y5, hy5, h⟩ := bi h
      refine t_sidx rfl rfl hy5 ?_
      refine ww ?_
      obtain ⟨t6, ht6, h⟩ := bi h
      refine cN [] (F110_ok ht6) trivial ?_
      refine ww ?_
      refine guardSBh h (fun g7 h => ?_) (fun g7 h => ?_)
      ·refine ww ?_
       cases h
       exact eM [] rfl
      ·refine ww ?_
       obtain ⟨y8, hy8, h⟩ := bi h
       refine t_sidx rfl rfl hy8 ?_
       refine ww ?_
       cases h
       exact eM [] rfl
     ·rintro _ rfl
      clear ho
      refine ww ?_
      refine condBh h (fun c9 h => ?_) (fun c9 h => ?_)
      ·refine ww ?_
       obtain ⟨fh0o2, hfh0o2, rfl⟩ := Option.map_eq_some_iff.1 h
       have h := hfh0o2.trans h0o2
       cases h
       exact eF []
      ·refine ww ?_
       exact eL' j [] ⟨(IntKind.i64.wrap (o2_0 + 1)), rfl, h⟩ (Nat.lt_succ_self _)
    ·refine ww ?_
     cases h
     exact eM [] ⟨_, rfl, rfl⟩
  ·rintro _ ⟨po2, rfl, rfl⟩
   clear ho
   dsimp only at h
   refine ww ?_
   cases h
   exact eF []

/- orchestrator/label.Valid -/
def F83_l2 (x0 : (List Label)) : List Label → Nat → Option ((Bool) ⊕ (Unit))
  | [], o2_0 => some (Sum.inr (()))
  | xo2 :: xs, o2_0 => (((F101 xo2.Key).bind fun t5 => (if (nb t5) = true then some true else (F102 xo2.Value).bind fun t7 => (if (nb t7) = true then some true else (if 0 < (o2_0 : Int) then (rdI x0 ((IntKind.i64.wrap (((o2_0 : Int)) - 1)))).bind fun y10 => some ((Op.bytesLess xo2.Key.toList y10.Key.toList || decide (xo2.Key = y10.Key))) else some false)))).bind fun o4 => (if o4 = true then (some false).map Sum.inl else F83_l2 x0 xs (o2_0 + 1)))
def F83 (x0 : (List Label)) : Option (Bool) := (if 16 < (x0.length : Int) then some false else (((ck (0 ≤ x0.length ∧ x0.length ≤ 4294967290)).bind fun u12 => F83_l2 x0 x0 0 : Option ((Bool) ⊕ (Unit))).bind fun o2 => match o2 with | Sum.inl f => some f | Sum.inr po2 => some true))
def a83 : AFn := ⟨41, [(.tmp 2)],
 (.seq (.reg [sq 2 (.mv (kB false))])
 (.seq (.seq (.reg [sq 5 (.mv (.t 0)),
sq 6 (.len (.t 5)),
sq 7 (.bin .gtr (.t 6) (kI 16))])
 (.cond (.t 7)
 (.seq (.reg [sq 2 (.mv (kB false))])
 .ret)
 .skip))
 (.seq (.seq (.reg [sq 8 (.mv (.t 0)),
sq 9 (.len (.t 8)),
sq 10 (.mv (kI 0))])
 (.sem (.block 0 (.loop (.seq (.reg [sq 11 (.bin .lss (.t 10) (.t 9))])
 (.seq (.cond (.t 11)
 .skip
 (.exit 0))
 (.seq (.block 1 (.seq (.reg [sq 12 (.mv (.t 10)),
sq 13 (.indexA 2 (.t 8) (.t 10)),
sq 14 (.load (some 2) (.t 13)),
sq 4 (.zbox [dS ⟨#[]⟩, dS ⟨#[]⟩]),
sq 3 (.mv (.t 12)),
su (.store 2 (.t 4) (.t 14))])
 (.seq (.sem (.regd [sq 15 (.fieldA 0 (.t 4)),
sd 16 (.load none (.t 15)) [0],
⟨(some 17), none, .call 101 [(.t 16)], [0, 1], (.lone [])⟩,
sd 18 (.not (.t 17)) [0, 1, 2],
sd 19 (.mv (.t 18)) [0, 1, 2, 3],
⟨(some 20), (some (19, false)), .fieldA 1 (.t 4), [0, 1, 2, 3, 4], (.new [])⟩,
⟨(some 21), (some (19, false)), .load none (.t 20), [0, 1, 2, 3, 4, 5], (.new [])⟩,
⟨(some 22), (some (19, false)), .call 102 [(.t 21)], [0, 1, 2, 3, 4, 5, 6], (.lone [])⟩,
⟨(some 23), (some (19, false)), .not (.t 22), [0, 1, 2, 3, 4, 5, 6, 7], (.new [])⟩,
⟨(some 24), none, .pick (.t 19) (kB true) (.t 23), [0, 1, 2, 3, 4, 5, 6, 7, 8], (.lone [])⟩,
sd 25 (.mv (.t 24)) [0, 1, 2, 3, 4, 5, 6, 7, 8, 9],
⟨(some 26), (some (25, false)), .mv (.t 3), [0, 1, 2, 3, 4, 5, 6, 7, 8, 9, 10], (.new [])⟩,
⟨(some 27), (some (25, false)), .bin .gtr (.t 26) (kI 0), [0, 1, 2, 3, 4, 5, 6, 7, 8, 9, 10, 11], (.new [])⟩,
⟨(some 28), (some (25, false)), .mv (.t 27), [0, 1, 2, 3, 4, 5, 6, 7, 8, 9, 10, 11, 12], (.new [])⟩,
⟨(some 29), (some (28, true)), .fieldA 0 (.t 4), [0, 1, 2, 3, 4, 5, 6, 7, 8, 9, 10, 11, 12, 13], (.new [])⟩,
⟨(some 30), (some (28, true)), .load none (.t 29), [0, 1, 2, 3, 4, 5, 6, 7, 8, 9, 10, 11, 12, 13, 14], (.new [])⟩,
⟨(some 31), (some (28, true)), .mv (.t 0), [0, 1, 2, 3, 4, 5, 6, 7, 8, 9, 10, 11, 12, 13], (.new [])⟩,
⟨(some 32), (some (28, true)), .mv (.t 3), [0, 1, 2, 3, 4, 5, 6, 7, 8, 9, 10, 11, 12, 13], (.new [])⟩,
⟨(some 33), (some (28, true)), .bin .sub (.t 32) (kI 1), [0, 1, 2, 3, 4, 5, 6, 7, 8, 9, 10, 11, 12, 13, 17], (.new [])⟩,
⟨(some 34), (some (28, true)), .indexA 2 (.t 31) (.t 33), [0, 1, 2, 3, 4, 5, 6, 7, 8, 9, 10, 11, 12, 13, 16, 17, 18], (.new [])⟩,
⟨(some 35), (some (28, true)), .fieldA 0 (.t 34), [0, 1, 2, 3, 4, 5, 6, 7, 8, 9, 10, 11, 12, 13, 16, 17, 18, 19], (.new [])⟩,
⟨(some 36), (some (28, true)), .load none (.t 35), [0, 1, 2, 3, 4, 5, 6, 7, 8, 9, 10, 11, 12, 13, 16, 17, 18, 19, 20], (.new [])⟩,
⟨(some 37), (some (28, true)), .bin .leq (.t 30) (.t 36), [0, 1, 2, 3, 4, 5, 6, 7, 8, 9, 10, 11, 12, 13, 14, 15, 16, 17, 18, 19, 20, 21], (.new [])⟩,
⟨(some 38), (some (25, false)), .pick (.t 28) (.t 37) (kB false), [0, 1, 2, 3, 4, 5, 6, 7, 8, 9, 10, 11, 12, 13, 14, 15, 16, 17, 18, 19, 20, 21, 22], (.lone [])⟩,
⟨(some 39), none, .pick (.t 25) (kB true) (.t 38), [0, 1, 2, 3, 4, 5, 6, 7, 8, 9, 10, 11, 12, 13, 14, 15, 16, 17, 18, 19, 20, 21, 22, 23], (.lone [])⟩]))
 (.cond (.t 39)
 (.seq (.reg [sq 2 (.mv (kB false))])
 .ret)
 .skip))))
 (.reg [sq 40 (.bin .add (.t 10) (kI 1)),
sq 10 (.mv (.t 40))]))))))))
 (.seq (.reg [sq 2 (.mv (kB true))])
 .ret))))⟩
theorem a83_ok : afn Try.prog 83 = some a83.er := by kernel_rfl
theorem F83_ok {x0 : (List Label)} {r : Bool} (h : F83 x0 = some r) : CallD Try.prog 83 [.c (dM (x0.map eLabel))] [] (tupV [.c (dB r)]) [] := by
 refine callS a83_ok (by simp [a83]) ?_
 rw [F83] at h
 simp only [a83, VW.down, Nat.reduceEqDiff, reduceCtorEq, Nat.reduceAdd, Nat.reduceLeDiff, Nat.reduceLT, Nat.reduceBEq, Nat.reduceSub, EE.down]
 refine condSh h (fun c1 h => ?_) (fun c1 h => ?_)
 ·refine ww ?_
  cases h
  exact eF []
 ·refine ww ?_
  obtain ⟨o2, ho, h⟩ := bi h
  refine cutS (fun s => ∃ po2, o2 = Sum.inr po2 ∧ s = ⟨[], []⟩) ?_ ?_
  ·have h0o2 := h
   have h := ho
   clear ho
   obtain ⟨_, hk, h⟩ := bi h
   have hk := ck_some hk
   refine ww ?_
   refine bL (fun j s => ∃ (o2_0 : Nat), (o2_0 ≤ x0.length ∧ j = x0.length - o2_0) ∧ s = ⟨[(0, .one (.c (dM (x0.map eLabel)))), (8, .one (.c (dM (x0.map eLabel)))), (9, .one (.c (dI ((x0.length : Int))))), (10, .one (.c (dI ((o2_0 : Int)))))], []⟩ ∧ F83_l2 x0 (x0.drop o2_0) o2_0 = some o2) (x0.length - 0) [] ⟨0, ⟨hk.1, rfl⟩, rfl, h⟩ ?_
   rintro _ _ ⟨o2_0, ⟨hi, rfl⟩, rfl, h⟩
   refine ww ?_
   refine condS (fun c3 => ?_) (fun c3 => ?_)
   ·obtain ⟨xo2, hxo2, hd⟩ := countY (show (o2_0 : Int) < (x0.length : Int) from c3)
    rw [hd, F83_l2] at h
    refine ww ?_
    refine t_idxF (enc := eLabel) (xs := x0) rfl rfl hxo2 rfl ?_
    refine ww ?_
    obtain ⟨o4, ho, h⟩ := bi h
    refine cutS (fun s => s = ⟨[(0, .one (.c (dM (x0.map eLabel)))), (8, .one (.c (dM (x0.map eLabel)))), (9, .one (.c (dI ((x0.length : Int))))), (10, .one (.c (dI ((o2_0 : Int))))), (39, .one (.c (dB o4)))], []⟩) ?_ ?_
    ·have h := ho
     clear ho
     refine ww ?_
     obtain ⟨t5, ht5, h⟩ := bi h
     refine cN [] (F101_ok ht5) trivial ?_
     refine ww ?_
     refine guardDBh h (fun g6 h => ?_) (fun g6 h => ?_)
     ·refine ww ?_
      cases h
      exact eM [] rfl
     ·refine ww ?_
      obtain ⟨t7, ht7, h⟩ := bi h
      refine cN [] (F102_ok ht7) trivial ?_
      refine ww ?_
      refine guardDBh h (fun g8 h => ?_) (fun g8 h => ?_)
      ·refine ww ?_
       cases h
       exact eM [] rfl
      ·refine ww ?_
       refine guardDh h (fun g9 h => ?_) (fun g9 h => ?_)
       ·refine ww ?_
        obtain ⟨y10, hy10, h⟩ := bi h
        refine t_idxF (enc := eLabel) (xs := x0) rfl rfl hy10 rfl ?_
        refine ww ?_
        cases h
        exact eM [] rfl
       ·refine ww ?_
        cases h
        exact eM [] rfl
    ·rintro _ rfl
     clear ho
     refine ww ?_
     refine condBh h (fun c11 h => ?_) (fun c11 h => ?_)
     ·refine ww ?_
      obtain ⟨fh0o2, hfh0o2, rfl⟩ := Option.map_eq_some_iff.1 h
      have h := hfh0o2.trans h0o2
      cases h
      exact eF []
     ·refine ww ?_
      rw [wrapN (by omega)]
      exact eL' (x0.length - (o2_0 + 1)) [] ⟨o2_0 + 1, ⟨by omega, rfl⟩, rfl, h⟩ (by omega)
   ·rw [countN (show ¬ ((o2_0 : Int) < (x0.length : Int)) from c3), F83_l2] at h
    refine ww ?_
    cases h
    exact eM [] ⟨_, rfl, rfl⟩
  ·rintro _ ⟨po2, rfl, rfl⟩
   clear ho
   dsimp only at h
   refine ww ?_
   cases h
   exact eF []

/- orchestrator/meta.owners -/
def F84_l1  : List Owner → Nat → (List (Int × Bool)) → Int → Option ((Bool) ⊕ (Int))
  | [], o1_2, o1_0, o1_1 => some (Sum.inr o1_1)
  | xo1 :: xs, o1_2, o1_0, o1_1 => (((((F80 xo1.Kind).bind fun t5 => (if (nb t5) = true then some true else (F82 xo1.Name).bind fun t7 => (if (nb t7) = true then some true else (if xo1.Uid ≤ 0 then some true else some (((getM xo1.Uid o1_0).getD false)))))).bind fun o4 => (if o4 = true then ((some false).map Sum.inl).map Sum.inl else (if xo1.Controller = true then some (Sum.inr ((IntKind.i64.wrap (o1_1 + 1)))) else some (Sum.inr o1_1)))) : Option (((Bool) ⊕ (Int)) ⊕ (Int))).bind fun o3 => match o3 with | Sum.inl f => some f | Sum.inr po3 => F84_l1  xs (o1_2 + 1) ((putM xo1.Uid true o1_0)) po3)
def F84 (x0 : (List Owner)) : Option (Bool) := (((ck (0 ≤ x0.length ∧ x0.length ≤ 4294967290)).bind fun u12 => F84_l1 x0 0 ([]) 0 : Option ((Bool) ⊕ (Int))).bind fun o1 => match o1 with | Sum.inl f => some f | Sum.inr po1 => (((if (x0.length : Int) ≤ 16 then some (decide (po1 ≤ 1)) else some false)).bind fun o13 => some o13))
def a84 : AFn := ⟨50, [(.tmp 2)],
 (.seq (.reg [sq 2 (.mv (kB false))])
 (.seq (.reg [sq 7 (.mkmap),
sq 3 (.mv (.t 7))])
 (.seq (.reg [sq 4 (.mv (kI 0))])
 (.seq (.seq (.reg [sq 8 (.mv (.t 0)),
sq 9 (.len (.t 8)),
sq 10 (.mv (kI 0))])
 (.sem (.block 0 (.loop (.seq (.reg [sq 11 (.bin .lss (.t 10) (.t 9))])
 (.seq (.cond (.t 11)
 .skip
 (.exit 0))
 (.seq (.sem (.block 1 (.seq (.reg [sq 12 (.indexA 5 (.t 8) (.t 10)),
sq 13 (.load (some 5) (.t 12)),
sq 6 (.zbox [dS ⟨#[]⟩, dS ⟨#[]⟩, dI 0, dB false, dB false]),
su (.store 5 (.t 6) (.t 13))])
 (.seq (.seq (.sem (.reg [sq 14 (.fieldA 0 (.t 6)),
sq 15 (.load none (.t 14)),
sq 16 (.call 80 [(.t 15)]),
sq 17 (.not (.t 16)),
sq 18 (.mv (.t 17)),
⟨(some 19), (some (18, false)), .fieldA 1 (.t 6), [], (.new [])⟩,
⟨(some 20), (some (18, false)), .load none (.t 19), [], (.new [])⟩,
⟨(some 21), (some (18, false)), .call 82 [(.t 20)], [], (.new [])⟩,
⟨(some 22), (some (18, false)), .not (.t 21), [], (.new [])⟩,
sq 23 (.pick (.t 18) (kB true) (.t 22)),
sq 24 (.mv (.t 23)),
⟨(some 25), (some (24, false)), .fieldA 2 (.t 6), [], (.new [])⟩,
⟨(some 26), (some (24, false)), .load none (.t 25), [], (.new [])⟩,
⟨(some 27), (some (24, false)), .bin .leq (.t 26) (kI 0), [], (.new [])⟩,
sq 28 (.pick (.t 24) (kB true) (.t 27)),
sq 29 (.mv (.t 28)),
⟨(some 30), (some (29, false)), .mv (.t 3), [], (.new [])⟩,
⟨(some 31), (some (29, false)), .fieldA 2 (.t 6), [], (.new [])⟩,
⟨(some 32), (some (29, false)), .load none (.t 31), [], (.new [])⟩,
⟨(some 33), (some (29, false)), .mget 0 false (.c (dB false)) (.t 30) (.t 32), [], (.new [])⟩,
sq 34 (.pick (.t 29) (kB true) (.t 33))]))
 (.cond (.t 34)
 (.seq (.reg [sq 2 (.mv (kB false))])
 .ret)
 .skip))
 (.seq (.reg [sq 35 (.mv (.t 3)),
sq 36 (.fieldA 2 (.t 6)),
sq 37 (.load none (.t 36)),
⟨none, none, .mset 0 (.t 35) (.t 37) (kB true), [], (.lone [6, 36])⟩])
 (.seq (.reg [sq 38 (.fieldA 3 (.t 6)),
sq 39 (.load none (.t 38))])
 (.cond (.t 39)
 (.reg [sq 40 (.mv (.t 4)),
sq 41 (.bin .add (.t 40) (kI 1)),
sq 4 (.mv (.t 41))])
 .skip)))))))
 (.reg [sq 42 (.bin .add (.t 10) (kI 1)),
sq 10 (.mv (.t 42))]))))))))
 (.seq (.sem (.reg [sq 43 (.mv (.t 0)),
sq 44 (.len (.t 43)),
sq 45 (.bin .leq (.t 44) (kI 16)),
sq 46 (.mv (.t 45)),
⟨(some 47), (some (46, true)), .mv (.t 4), [], (.new [])⟩,
⟨(some 48), (some (46, true)), .bin .leq (.t 47) (kI 1), [], (.new [])⟩,
sq 49 (.pick (.t 46) (.t 48) (kB false)),
sq 2 (.mv (.t 49))]))
 .ret)))))⟩
theorem a84_ok : afn Try.prog 84 = some a84.er := by kernel_rfl
theorem F84_ok {x0 : (List Owner)} {r : Bool} (h : F84 x0 = some r) : CallD Try.prog 84 [.c (dM (x0.map eOwner))] [] (tupV [.c (dB r)]) [] := by
 refine callS a84_ok (by simp [a84]) ?_
 rw [F84] at h
 simp only [a84, VW.down, Nat.reduceEqDiff, reduceCtorEq, Nat.reduceAdd, Nat.reduceLeDiff, Nat.reduceLT, Nat.reduceBEq, Nat.reduceSub, EE.down]
 refine t_mkmap1 (κ := Int) (α := Bool) (enc := (fun x => .v (.bool x))) (Value.int .i64) ?_
 refine ww ?_
 obtain ⟨o1, ho, h⟩ := bi h
 refine cutS (fun s => ∃ po1, o1 = Sum.inr po1 ∧ s = ⟨[(0, .one (.c (dM (x0.map eOwner)))), (4, .one (.c (dI po1)))], []⟩) ?_ ?_
 ·have h0o1 := h
  have h := ho
  clear ho
  obtain ⟨_, hk, h⟩ := bi h
  have hk := ck_some hk
  refine ww ?_
  refine bL (fun j s => ∃ (o1_2 : Nat) (o1_0 : List (Int × Bool)) (o1_1 : Int), (o1_2 ≤ x0.length ∧ j = x0.length - o1_2) ∧ s = ⟨[(0, .one (.c (dM (x0.map eOwner)))), (3, .one (.c (.mref 0))), (4, .one (.c (dI o1_1))), (8, .one (.c (dM (x0.map eOwner)))), (9, .one (.c (dI ((x0.length : Int))))), (10, .one (.c (dI ((o1_2 : Int)))))], [some (.map (eM1 (Value.int .i64) (fun x => .v (.bool x)) o1_0))]⟩ ∧ F84_l1 (x0.drop o1_2) o1_2 o1_0 o1_1 = some o1) (x0.length - 0) [some 0] ⟨0, [], 0, ⟨hk.1, rfl⟩, rfl, h⟩ ?_
  rintro _ _ ⟨o1_2, o1_0, o1_1, ⟨hi, rfl⟩, rfl, h⟩
  refine ww ?_
  refine condS (fun c2 => ?_) (fun c2 => ?_)
  ·obtain ⟨xo1, hxo1, hd⟩ := countY (show (o1_2 : Int) < (x0.length : Int) from c2)
   rw [hd, F84_l1] at h
   refine ww ?_
   obtain ⟨o3, ho, h⟩ := bi h
   refine cutS (fun s => ∃ po3, o3 = Sum.inr po3 ∧ s = ⟨[(0, .one (.c (dM (x0.map eOwner)))), (3, .one (.c (.mref 0))), (4, .one (.c (dI po3))), (8, .one (.c (dM (x0.map eOwner)))), (9, .one (.c (dI ((x0.length : Int))))), (10, .one (.c (dI ((o1_2 : Int)))))], [some (.map (eM1 (Value.int .i64) (fun x => .v (.bool x)) ((putM xo1.Uid true o1_0))))]⟩) ?_ ?_
   ·have h0o3 := h
    have h := ho
    clear ho
    refine ww ?_
    refine t_idxF (enc := eOwner) (xs := x0) rfl rfl hxo1 rfl ?_
    refine ww ?_
    obtain ⟨o4, ho, h⟩ := bi h
    refine cutS (fun s => s = ⟨[(0, .one (.c (dM (x0.map eOwner)))), (3, .one (.c (.mref 0))), (4, .one (.c (dI o1_1))), (6, .one (.c (.pt 1 0))), (8, .one (.c (dM (x0.map eOwner)))), (9, .one (.c (dI ((x0.length : Int))))), (10, .one (.c (dI ((o1_2 : Int))))), (34, .one (.c (dB o4)))], [some (.map (eM1 (Value.int .i64) (fun x => .v (.bool x)) o1_0)), some (.box [dS xo1.Kind, dS xo1.Name, dI xo1.Uid, dB xo1.Controller, dB xo1.Block])]⟩) ?_ ?_
    ·have h := ho
     clear ho
     refine ww ?_
     obtain ⟨t5, ht5, h⟩ := bi h
     refine cN [] (F80_ok ht5) trivial ?_
     refine ww ?_
     refine guardSBh h (fun g6 h => ?_) (fun g6 h => ?_)
     ·refine ww ?_
      cases h
      exact eM [some 0, some 1] rfl
     ·refine ww ?_
      obtain ⟨t7, ht7, h⟩ := bi h
      refine cN [] (F82_ok ht7) trivial ?_
      refine ww ?_
      refine guardSBh h (fun g8 h => ?_) (fun g8 h => ?_)
      ·refine ww ?_
       cases h
       exact eM [some 0, some 1] rfl
      ·refine ww ?_
       refine guardSh h (fun g9 h => ?_) (fun g9 h => ?_)
       ·refine ww ?_
        cases h
        exact eM [some 0, some 1] rfl
       ·refine ww ?_
        refine t_mget1 (enc := (fun x => .v (.bool x))) (l := o1_0) (z := false) kkI rfl rfl rfl rfl ?_
        refine ww ?_
        cases h
        exact eM [some 0, some 1] rfl
    ·rintro _ rfl
     clear ho
     refine ww ?_
     refine condBh h (fun c10 h => ?_) (fun c10 h => ?_)
     ·refine ww ?_
      obtain ⟨fh0o3, hfh0o3, rfl⟩ := Option.map_eq_some_iff.1 h
      have h := hfh0o3.trans h0o3
      obtain ⟨fh0o1, hfh0o1, rfl⟩ := Option.map_eq_some_iff.1 h
      have h := hfh0o1.trans h0o1
      cases h
      exact eF []
     ·refine ww ?_
      refine t_mset1 (enc := (fun x => .v (.bool x))) (l := o1_0) (x := true) kkI rfl rfl rfl rfl ?_
      refine ww ?_
      refine condBh h (fun c11 h => ?_) (fun c11 h => ?_)
      ·refine ww ?_
       cases h
       exact eM [some 0] ⟨_, rfl, rfl⟩
      ·refine ww ?_
       cases h
       exact eM [some 0] ⟨_, rfl, rfl⟩
   ·rintro _ ⟨po3, rfl, rfl⟩
    clear ho
    dsimp only at h
    refine ww ?_
    rw [wrapN (by omega)]
    exact eL' (x0.length - (o1_2 + 1)) [some 0] ⟨o1_2 + 1, (putM xo1.Uid true o1_0), po3, ⟨by omega, rfl⟩, rfl, h⟩ (by omega)
  ·rw [countN (show ¬ ((o1_2 : Int) < (x0.length : Int)) from c2), F84_l1] at h
   refine ww ?_
   cases h
   exact eM [] ⟨_, rfl, rfl⟩
 ·rintro _ ⟨po1, rfl, rfl⟩
  clear ho
  dsimp only at h
  refine ww ?_
  obtain ⟨o13, ho, h⟩ := bi h
  refine cutS (fun s => s = ⟨[(2, .one (.c (dB o13)))], []⟩) ?_ ?_
  ·have h := ho
   clear ho
   refine ww ?_
   refine guardSh h (fun g14 h => ?_) (fun g14 h => ?_)
   ·refine ww ?_
    cases h
    exact eM [] rfl
   ·refine ww ?_
    cases h
    exact eM [] rfl
  ·rintro _ rfl
   clear ho
   refine ww ?_
   cases h
   exact eF []

/- orchestrator/meta.finalizers -/
def F85_l1  : List ByteArray → Nat → (List (ByteArray × Bool)) → Option ((Bool) ⊕ (Unit))
  | [], o1_1, o1_0 => some (Sum.inr (()))
  | xo1 :: xs, o1_1, o1_0 => (((F82 xo1).bind fun t4 => (if (nb t4) = true then some true else some (((getM xo1 o1_0).getD false)))).bind fun o3 => (if o3 = true then (some false).map Sum.inl else F85_l1  xs (o1_1 + 1) ((putM xo1 true o1_0))))
def F85 (x0 : (List ByteArray)) : Option (Bool) := (((ck (0 ≤ x0.length ∧ x0.length ≤ 4294967290)).bind fun u7 => F85_l1 x0 0 ([]) : Option ((Bool) ⊕ (Unit))).bind fun o1 => match o1 with | Sum.inl f => some f | Sum.inr po1 => some (decide ((x0.length : Int) ≤ 16)))
def a85 : AFn := ⟨27, [(.tmp 2)],
 (.seq (.reg [sq 2 (.mv (kB false))])
 (.seq (.reg [sq 6 (.mkmap),
sq 3 (.mv (.t 6))])
 (.seq (.seq (.reg [sq 7 (.mv (.t 0)),
sq 8 (.len (.t 7)),
sq 9 (.mv (kI 0))])
 (.sem (.block 0 (.loop (.seq (.reg [sq 10 (.bin .lss (.t 9) (.t 8))])
 (.seq (.cond (.t 10)
 .skip
 (.exit 0))
 (.seq (.block 1 (.seq (.reg [sq 11 (.indexA 1 (.t 7) (.t 9)),
sq 12 (.load none (.t 11)),
sq 5 (.mv (.t 12))])
 (.seq (.seq (.sem (.reg [sq 13 (.mv (.t 5)),
sq 14 (.call 82 [(.t 13)]),
sq 15 (.not (.t 14)),
sq 16 (.mv (.t 15)),
⟨(some 17), (some (16, false)), .mv (.t 3), [], (.new [])⟩,
⟨(some 18), (some (16, false)), .mv (.t 5), [], (.new [])⟩,
⟨(some 19), (some (16, false)), .mget 1 false (.c (dB false)) (.t 17) (.t 18), [], (.new [])⟩,
sq 20 (.pick (.t 16) (kB true) (.t 19))]))
 (.cond (.t 20)
 (.seq (.reg [sq 2 (.mv (kB false))])
 .ret)
 .skip))
 (.reg [sq 21 (.mv (.t 3)),
sq 22 (.mv (.t 5)),
⟨none, none, .mset 1 (.t 21) (.t 22) (kB true), [], (.lone [])⟩]))))
 (.reg [sq 23 (.bin .add (.t 9) (kI 1)),
sq 9 (.mv (.t 23))]))))))))
 (.seq (.reg [sq 24 (.mv (.t 0)),
sq 25 (.len (.t 24)),
sq 26 (.bin .leq (.t 25) (kI 16)),
sq 2 (.mv (.t 26))])
 .ret))))⟩
theorem a85_ok : afn Try.prog 85 = some a85.er := by kernel_rfl
theorem F85_ok {x0 : (List ByteArray)} {r : Bool} (h : F85 x0 = some r) : CallD Try.prog 85 [.c (dM (x0.map eS))] [] (tupV [.c (dB r)]) [] := by
 refine callS a85_ok (by simp [a85]) ?_
 rw [F85] at h
 simp only [a85, VW.down, Nat.reduceEqDiff, reduceCtorEq, Nat.reduceAdd, Nat.reduceLeDiff, Nat.reduceLT, Nat.reduceBEq, Nat.reduceSub, EE.down]
 refine t_mkmap1 (κ := ByteArray) (α := Bool) (enc := (fun x => .v (.bool x))) Value.string ?_
 refine ww ?_
 obtain ⟨o1, ho, h⟩ := bi h
 refine cutS (fun s => ∃ po1, o1 = Sum.inr po1 ∧ s = ⟨[(0, .one (.c (dM (x0.map eS))))], []⟩) ?_ ?_
 ·have h0o1 := h
  have h := ho
  clear ho
  obtain ⟨_, hk, h⟩ := bi h
  have hk := ck_some hk
  refine ww ?_
  refine bL (fun j s => ∃ (o1_1 : Nat) (o1_0 : List (ByteArray × Bool)), (o1_1 ≤ x0.length ∧ j = x0.length - o1_1) ∧ s = ⟨[(0, .one (.c (dM (x0.map eS)))), (3, .one (.c (.mref 0))), (7, .one (.c (dM (x0.map eS)))), (8, .one (.c (dI ((x0.length : Int))))), (9, .one (.c (dI ((o1_1 : Int)))))], [some (.map (eM1 Value.string (fun x => .v (.bool x)) o1_0))]⟩ ∧ F85_l1 (x0.drop o1_1) o1_1 o1_0 = some o1) (x0.length - 0) [some 0] ⟨0, [], ⟨hk.1, rfl⟩, rfl, h⟩ ?_
  rintro _ _ ⟨o1_1, o1_0, ⟨hi, rfl⟩, rfl, h⟩
  refine ww ?_
  refine condS (fun c2 => ?_) (fun c2 => ?_)
  ·obtain ⟨xo1, hxo1, hd⟩ := countY (show (o1_1 : Int) < (x0.length : Int) from c2)
   rw [hd, F85_l1] at h
   refine ww ?_
   refine t_idxF (enc := eS) (xs := x0) rfl rfl hxo1 rfl ?_
   refine ww ?_
   obtain ⟨o3, ho, h⟩ := bi h
   refine cutS (fun s => s = ⟨[(0, .one (.c (dM (x0.map eS)))), (3, .one (.c (.mref 0))), (5, .one (.c (dS xo1))), (7, .one (.c (dM (x0.map eS)))), (8, .one (.c (dI ((x0.length : Int))))), (9, .one (.c (dI ((o1_1 : Int))))), (20, .one (.c (dB o3)))], [some (.map (eM1 Value.string (fun x => .v (.bool x)) o1_0))]⟩) ?_ ?_
   ·have h := ho
    clear ho
    refine ww ?_
    obtain ⟨t4, ht4, h⟩ := bi h
    refine cN [] (F82_ok ht4) trivial ?_
    refine ww ?_
    refine guardSBh h (fun g5 h => ?_) (fun g5 h => ?_)
    ·refine ww ?_
     cases h
     exact eM [some 0] rfl
    ·refine ww ?_
     refine t_mget1 (enc := (fun x => .v (.bool x))) (l := o1_0) (z := false) kkS rfl rfl rfl rfl ?_
     refine ww ?_
     cases h
     exact eM [some 0] rfl
   ·rintro _ rfl
    clear ho
    refine ww ?_
    refine condBh h (fun c6 h => ?_) (fun c6 h => ?_)
    ·refine ww ?_
     obtain ⟨fh0o1, hfh0o1, rfl⟩ := Option.map_eq_some_iff.1 h
     have h := hfh0o1.trans h0o1
     cases h
     exact eF []
    ·refine ww ?_
     refine t_mset1 (enc := (fun x => .v (.bool x))) (l := o1_0) (x := true) kkS rfl rfl rfl rfl ?_
     refine ww ?_
     rw [wrapN (by omega)]
     exact eL' (x0.length - (o1_1 + 1)) [some 0] ⟨o1_1 + 1, (putM xo1 true o1_0), ⟨by omega, rfl⟩, rfl, h⟩ (by omega)
  ·rw [countN (show ¬ ((o1_1 : Int) < (x0.length : Int)) from c2), F85_l1] at h
   refine ww ?_
   cases h
   exact eM [] ⟨_, rfl, rfl⟩
 ·rintro _ ⟨po1, rfl, rfl⟩
  clear ho
  dsimp only at h
  refine ww ?_
  cases h
  exact eF []

/- orchestrator/meta.rising -/
def F103_l1 (x0 : (List ByteArray)) : Nat → Int → Option ((Bool) ⊕ (Unit))
  | 0, _ => none
  | k + 1, o1_0 => (if o1_0 < (x0.length : Int) then (rdI x0 ((IntKind.i64.wrap (o1_0 - 1)))).bind fun y3 => (rdI x0 o1_0).bind fun y4 => (if (nb (Op.bytesLess y3.toList y4.toList)) = true then (some false).map Sum.inl else F103_l1 x0 k ((IntKind.i64.wrap (o1_0 + 1)))) else some (Sum.inr (())))
def F103 (x0 : (List ByteArray)) : Option (Bool) := ((F103_l1 x0 1099511627776 1 : Option ((Bool) ⊕ (Unit))).bind fun o1 => match o1 with | Sum.inl f => some f | Sum.inr po1 => some true)
def a103 : AFn := ⟨20, [(.tmp 2)],
 (.seq (.reg [sq 2 (.mv (kB false))])
 (.seq (.seq (.reg [sq 3 (.mv (kI 1))])
 (.sem (.block 0 (.loop (.seq (.seq (.reg [sq 4 (.mv (.t 3)),
sq 5 (.mv (.t 0)),
sq 6 (.len (.t 5)),
sq 7 (.bin .lss (.t 4) (.t 6))])
 (.cond (.t 7)
 .skip
 (.exit 0)))
 (.seq (.block 1 (.seq (.regd [sq 10 (.mv (.t 0)),
sq 11 (.mv (.t 3)),
sd 12 (.bin .sub (.t 11) (kI 1)) [1],
sd 13 (.indexA 1 (.t 10) (.t 12)) [0, 1, 2],
sd 14 (.load none (.t 13)) [0, 1, 2, 3],
sq 15 (.mv (.t 0)),
sq 16 (.mv (.t 3)),
sd 17 (.indexA 1 (.t 15) (.t 16)) [5, 6],
sd 18 (.load none (.t 17)) [5, 6, 7],
sd 19 (.bin .geq (.t 14) (.t 18)) [0, 1, 2, 3, 4, 5, 6, 7, 8]])
 (.cond (.t 19)
 (.seq (.reg [sq 2 (.mv (kB false))])
 .ret)
 .skip)))
 (.reg [sq 8 (.mv (.t 3)),
sq 9 (.bin .add (.t 8) (kI 1)),
sq 3 (.mv (.t 9))])))))))
 (.seq (.reg [sq 2 (.mv (kB true))])
 .ret)))⟩
theorem a103_ok : afn Try.prog 103 = some a103.er := by kernel_rfl
theorem F103_ok {x0 : (List ByteArray)} {r : Bool} (h : F103 x0 = some r) : CallD Try.prog 103 [.c (dM (x0.map eS))] [] (tupV [.c (dB r)]) [] := by
 refine callS a103_ok (by simp [a103]) ?_
 rw [F103] at h
 simp only [a103, VW.down, Nat.reduceEqDiff, reduceCtorEq, Nat.reduceAdd, Nat.reduceLeDiff, Nat.reduceLT, Nat.reduceBEq, Nat.reduceSub, EE.down]
 obtain ⟨o1, ho, h⟩ := bi h
 refine cutS (fun s => ∃ po1, o1 = Sum.inr po1 ∧ s = ⟨[], []⟩) ?_ ?_
 ·have h0o1 := h
  have h := ho
  clear ho
  refine ww ?_
  refine bL (fun j s => ∃ (o1_0 : Int), s = ⟨[(0, .one (.c (dM (x0.map eS)))), (3, .one (.c (dI o1_0)))], []⟩ ∧ F103_l1 x0 j o1_0 = some o1) 1099511627776 [] ⟨1, rfl, h⟩ ?_
  rintro j _ ⟨o1_0, rfl, h⟩
  cases j with
  | zero => cases (show (none : Option _) = some _ from h)
  | succ j =>
   rw [F103_l1] at h
   refine ww ?_
   refine condSh h (fun c2 h => ?_) (fun c2 h => ?_)
   ·refine ww ?_
    obtain ⟨y3, hy3, h⟩ := bi h
    refine t_idxF (enc := eS) (xs := x0) rfl rfl hy3 rfl ?_
    refine ww ?_
    obtain ⟨y4, hy4, h⟩ := bi h
    refine t_idxF (enc := eS) (xs := x0) rfl rfl hy4 rfl ?_
    refine ww ?_
    refine condBh h (fun c5 h => ?_) (fun c5 h => ?_)
    ·refine ww ?_
     obtain ⟨fh0o1, hfh0o1, rfl⟩ := Option.map_eq_some_iff.1 h
     have h := hfh0o1.trans h0o1
     cases h
     exact eF []
    ·refine ww ?_
     exact eL' j [] ⟨(IntKind.i64.wrap (o1_0 + 1)), rfl, h⟩ (Nat.lt_succ_self _)
   ·refine ww ?_
    cases h
    exact eM [] ⟨_, rfl, rfl⟩
 ·rintro _ ⟨po1, rfl, rfl⟩
  clear ho
  dsimp only at h
  refine ww ?_
  cases h
  exact eF []

/- orchestrator/meta.managers -/
def F86_l1 (x0 : (List Manager)) : List Manager → Nat → Option ((Bool) ⊕ (Unit))
  | [], o1_0 => some (Sum.inr (()))
  | xo1 :: xs, o1_0 => (((F82 xo1.Name).bind fun t4 => (if (nb t4) = true then some true else (if 0 < (o1_0 : Int) then (rdI x0 ((IntKind.i64.wrap (((o1_0 : Int)) - 1)))).bind fun y7 => (if (nb (Op.bytesLess y7.Name.toList xo1.Name.toList)) = true then some true else (if (xo1.Fields.length : Int) < 1 then some true else (if 600 < (xo1.Fields.length : Int) then some true else (F103 xo1.Fields).bind fun t11 => some (nb t11)))) else (if (xo1.Fields.length : Int) < 1 then some true else (if 600 < (xo1.Fields.length : Int) then some true else (F103 xo1.Fields).bind fun t14 => some (nb t14)))))).bind fun o3 => (if o3 = true then (some false).map Sum.inl else F86_l1 x0 xs (o1_0 + 1)))
def F86 (x0 : (List Manager)) : Option (Bool) := (((ck (0 ≤ x0.length ∧ x0.length ≤ 4294967290)).bind fun u16 => F86_l1 x0 x0 0 : Option ((Bool) ⊕ (Unit))).bind fun o1 => match o1 with | Sum.inl f => some f | Sum.inr po1 => some (decide ((x0.length : Int) ≤ 16)))
def a86 : AFn := ⟨53, [(.tmp 2)],
 (.seq (.reg [sq 2 (.mv (kB false))])
 (.seq (.seq (.reg [sq 5 (.mv (.t 0)),
sq 6 (.len (.t 5)),
sq 7 (.mv (kI 0))])
 (.sem (.block 0 (.loop (.seq (.reg [sq 8 (.bin .lss (.t 7) (.t 6))])
 (.seq (.cond (.t 8)
 .skip
 (.exit 0))
 (.seq (.block 1 (.seq (.reg [sq 9 (.mv (.t 7)),
sq 10 (.indexA 2 (.t 5) (.t 7)),
sq 11 (.load (some 2) (.t 10)),
sq 4 (.zbox [dS ⟨#[]⟩, dN]),
sq 3 (.mv (.t 9)),
su (.store 2 (.t 4) (.t 11))])
 (.seq (.sem (.regd [sq 12 (.fieldA 0 (.t 4)),
sd 13 (.load none (.t 12)) [0],
⟨(some 14), none, .call 82 [(.t 13)], [0, 1], (.lone [])⟩,
sd 15 (.not (.t 14)) [0, 1, 2],
sd 16 (.mv (.t 15)) [0, 1, 2, 3],
⟨(some 17), (some (16, false)), .mv (.t 3), [0, 1, 2, 3, 4], (.new [])⟩,
⟨(some 18), (some (16, false)), .bin .gtr (.t 17) (kI 0), [0, 1, 2, 3, 4, 5], (.new [])⟩,
⟨(some 19), (some (16, false)), .mv (.t 18), [0, 1, 2, 3, 4, 5, 6], (.new [])⟩,
⟨(some 20), (some (19, true)), .mv (.t 0), [0, 1, 2, 3, 4, 5, 6, 7], (.new [])⟩,
⟨(some 21), (some (19, true)), .mv (.t 3), [0, 1, 2, 3, 4, 5, 6, 7], (.new [])⟩,
⟨(some 22), (some (19, true)), .bin .sub (.t 21) (kI 1), [0, 1, 2, 3, 4, 5, 6, 7, 9], (.new [])⟩,
⟨(some 23), (some (19, true)), .indexA 2 (.t 20) (.t 22), [0, 1, 2, 3, 4, 5, 6, 7, 8, 9, 10], (.new [])⟩,
⟨(some 24), (some (19, true)), .fieldA 0 (.t 23), [0, 1, 2, 3, 4, 5, 6, 7, 8, 9, 10, 11], (.new [])⟩,
⟨(some 25), (some (19, true)), .load none (.t 24), [0, 1, 2, 3, 4, 5, 6, 7, 8, 9, 10, 11, 12], (.new [])⟩,
⟨(some 26), (some (19, true)), .fieldA 0 (.t 4), [0, 1, 2, 3, 4, 5, 6, 7], (.new [])⟩,
⟨(some 27), (some (19, true)), .load none (.t 26), [0, 1, 2, 3, 4, 5, 6, 7, 14], (.new [])⟩,
⟨(some 28), (some (19, true)), .bin .geq (.t 25) (.t 27), [0, 1, 2, 3, 4, 5, 6, 7, 8, 9, 10, 11, 12, 13, 14, 15], (.new [])⟩,
⟨(some 29), (some (16, false)), .pick (.t 19) (.t 28) (kB false), [0, 1, 2, 3, 4, 5, 6, 7, 8, 9, 10, 11, 12, 13, 14, 15, 16], (.lone [])⟩,
⟨(some 30), none, .pick (.t 16) (kB true) (.t 29), [0, 1, 2, 3, 4, 5, 6, 7, 8, 9, 10, 11, 12, 13, 14, 15, 16, 17], (.lone [])⟩,
sd 31 (.mv (.t 30)) [0, 1, 2, 3, 4, 5, 6, 7, 8, 9, 10, 11, 12, 13, 14, 15, 16, 17, 18],
⟨(some 32), (some (31, false)), .fieldA 1 (.t 4), [0, 1, 2, 3, 4, 5, 6, 7, 8, 9, 10, 11, 12, 13, 14, 15, 16, 17, 18, 19], (.new [])⟩,
⟨(some 33), (some (31, false)), .load none (.t 32), [0, 1, 2, 3, 4, 5, 6, 7, 8, 9, 10, 11, 12, 13, 14, 15, 16, 17, 18, 19, 20], (.new [])⟩,
⟨(some 34), (some (31, false)), .len (.t 33), [0, 1, 2, 3, 4, 5, 6, 7, 8, 9, 10, 11, 12, 13, 14, 15, 16, 17, 18, 19, 20, 21], (.new [])⟩,
⟨(some 35), (some (31, false)), .bin .lss (.t 34) (kI 1), [0, 1, 2, 3, 4, 5, 6, 7, 8, 9, 10, 11, 12, 13, 14, 15, 16, 17, 18, 19, 20, 21, 22], (.new [])⟩,
⟨(some 36), none, .pick (.t 31) (kB true) (.t 35), [0, 1, 2, 3, 4, 5, 6, 7, 8, 9, 10, 11, 12, 13, 14, 15, 16, 17, 18, 19, 20, 21, 22, 23], (.lone [])⟩,
sd 37 (.mv (.t 36)) [0, 1, 2, 3, 4, 5, 6, 7, 8, 9, 10, 11, 12, 13, 14, 15, 16, 17, 18, 19, 20, 21, 22, 23, 24],
⟨(some 38), (some (37, false)), .fieldA 1 (.t 4), [0, 1, 2, 3, 4, 5, 6, 7, 8, 9, 10, 11, 12, 13, 14, 15, 16, 17, 18, 19, 20, 21, 22, 23, 24, 25], (.new [])⟩,
⟨(some 39), (some (37, false)), .load none (.t 38), [0, 1, 2, 3, 4, 5, 6, 7, 8, 9, 10, 11, 12, 13, 14, 15, 16, 17, 18, 19, 20, 21, 22, 23, 24, 25, 26], (.new [])⟩,
⟨(some 40), (some (37, false)), .len (.t 39), [0, 1, 2, 3, 4, 5, 6, 7, 8, 9, 10, 11, 12, 13, 14, 15, 16, 17, 18, 19, 20, 21, 22, 23, 24, 25, 26, 27], (.new [])⟩,
⟨(some 41), (some (37, false)), .bin .gtr (.t 40) (kI 600), [0, 1, 2, 3, 4, 5, 6, 7, 8, 9, 10, 11, 12, 13, 14, 15, 16, 17, 18, 19, 20, 21, 22, 23, 24, 25, 26, 27, 28], (.new [])⟩,
⟨(some 42), none, .pick (.t 37) (kB true) (.t 41), [0, 1, 2, 3, 4, 5, 6, 7, 8, 9, 10, 11, 12, 13, 14, 15, 16, 17, 18, 19, 20, 21, 22, 23, 24, 25, 26, 27, 28, 29], (.lone [])⟩,
sd 43 (.mv (.t 42)) [0, 1, 2, 3, 4, 5, 6, 7, 8, 9, 10, 11, 12, 13, 14, 15, 16, 17, 18, 19, 20, 21, 22, 23, 24, 25, 26, 27, 28, 29, 30],
⟨(some 44), (some (43, false)), .fieldA 1 (.t 4), [0, 1, 2, 3, 4, 5, 6, 7, 8, 9, 10, 11, 12, 13, 14, 15, 16, 17, 18, 19, 20, 21, 22, 23, 24, 25, 26, 27, 28, 29, 30, 31], (.new [])⟩,
⟨(some 45), (some (43, false)), .load none (.t 44), [0, 1, 2, 3, 4, 5, 6, 7, 8, 9, 10, 11, 12, 13, 14, 15, 16, 17, 18, 19, 20, 21, 22, 23, 24, 25, 26, 27, 28, 29, 30, 31, 32], (.new [])⟩,
⟨(some 46), (some (43, false)), .call 103 [(.t 45)], [0, 1, 2, 3, 4, 5, 6, 7, 8, 9, 10, 11, 12, 13, 14, 15, 16, 17, 18, 19, 20, 21, 22, 23, 24, 25, 26, 27, 28, 29, 30, 31, 32, 33], (.lone [])⟩,
⟨(some 47), (some (43, false)), .not (.t 46), [0, 1, 2, 3, 4, 5, 6, 7, 8, 9, 10, 11, 12, 13, 14, 15, 16, 17, 18, 19, 20, 21, 22, 23, 24, 25, 26, 27, 28, 29, 30, 31, 32, 33, 34], (.new [])⟩,
⟨(some 48), none, .pick (.t 43) (kB true) (.t 47), [0, 1, 2, 3, 4, 5, 6, 7, 8, 9, 10, 11, 12, 13, 14, 15, 16, 17, 18, 19, 20, 21, 22, 23, 24, 25, 26, 27, 28, 29, 30, 31, 32, 33, 34, 35], (.lone [])⟩]))
 (.cond (.t 48)
 (.seq (.reg [sq 2 (.mv (kB false))])
 .ret)
 .skip))))
 (.reg [sq 49 (.bin .add (.t 7) (kI 1)),
sq 7 (.mv (.t 49))]))))))))
 (.seq (.reg [sq 50 (.mv (.t 0)),
sq 51 (.len (.t 50)),
sq 52 (.bin .leq (.t 51) (kI 16)),
sq 2 (.mv (.t 52))])
 .ret)))⟩
theorem a86_ok : afn Try.prog 86 = some a86.er := by kernel_rfl
theorem F86_ok {x0 : (List Manager)} {r : Bool} (h : F86 x0 = some r) : CallD Try.prog 86 [.c (dM (x0.map eManager))] [] (tupV [.c (dB r)]) [] := by
 refine callS a86_ok (by simp [a86]) ?_
 rw [F86] at h
 simp only [a86, VW.down, Nat.reduceEqDiff, reduceCtorEq, Nat.reduceAdd, Nat.reduceLeDiff, Nat.reduceLT, Nat.reduceBEq, Nat.reduceSub, EE.down]
 obtain ⟨o1, ho, h⟩ := bi h
 refine cutS (fun s => ∃ po1, o1 = Sum.inr po1 ∧ s = ⟨[(0, .one (.c (dM (x0.map eManager))))], []⟩) ?_ ?_
 ·have h0o1 := h
  have h := ho
  clear ho
  obtain ⟨_, hk, h⟩ := bi h
  have hk := ck_some hk
  refine ww ?_
  refine bL (fun j s => ∃ (o1_0 : Nat), (o1_0 ≤ x0.length ∧ j = x0.length - o1_0) ∧ s = ⟨[(0, .one (.c (dM (x0.map eManager)))), (5, .one (.c (dM (x0.map eManager)))), (6, .one (.c (dI ((x0.length : Int))))), (7, .one (.c (dI ((o1_0 : Int)))))], []⟩ ∧ F86_l1 x0 (x0.drop o1_0) o1_0 = some o1) (x0.length - 0) [] ⟨0, ⟨hk.1, rfl⟩, rfl, h⟩ ?_
  rintro _ _ ⟨o1_0, ⟨hi, rfl⟩, rfl, h⟩
  refine ww ?_
  refine condS (fun c2 => ?_) (fun c2 => ?_)
  ·obtain ⟨xo1, hxo1, hd⟩ := countY (show (o1_0 : Int) < (x0.length : Int) from c2)
   rw [hd, F86_l1] at h
   refine ww ?_
   refine t_idxF (enc := eManager) (xs := x0) rfl rfl hxo1 rfl ?_
   refine ww ?_
   obtain ⟨o3, ho, h⟩ := bi h
   refine cutS (fun s => s = ⟨[(0, .one (.c (dM (x0.map eManager)))), (5, .one (.c (dM (x0.map eManager)))), (6, .one (.c (dI ((x0.length : Int))))), (7, .one (.c (dI ((o1_0 : Int))))), (48, .one (.c (dB o3)))], []⟩) ?_ ?_
   ·have h := ho
    clear ho
    refine ww ?_
    obtain ⟨t4, ht4, h⟩ := bi h
    refine cN [] (F82_ok ht4) trivial ?_
    refine ww ?_
    refine guardDBh h (fun g5 h => ?_) (fun g5 h => ?_)
    ·refine ww ?_
     cases h
     exact eM [] rfl
    ·refine ww ?_
     refine guardDh h (fun g6 h => ?_) (fun g6 h => ?_)
     ·refine ww ?_
      obtain ⟨y7, hy7, h⟩ := bi h
      refine t_idxF (enc := eManager) (xs := x0) rfl rfl hy7 rfl ?_
      refine ww ?_
      refine guardDBh h (fun g8 h => ?_) (fun g8 h => ?_)
      ·refine ww ?_
       cases h
       exact eM [] rfl
      ·refine ww ?_
       refine guardDh h (fun g9 h => ?_) (fun g9 h => ?_)
       ·refine ww ?_
        cases h
        exact eM [] rfl
       ·refine ww ?_
        refine guardDh h (fun g10 h => ?_) (fun g10 h => ?_)
        ·refine ww ?_
         cases h
         exact eM [] rfl
        ·refine ww ?_
         obtain ⟨t11, ht11, h⟩ := bi h
         refine cN [] (F103_ok ht11) trivial ?_
         refine ww ?_
         cases h
         exact eM [] rfl
     ·refine ww ?_
      refine guardDh h (fun g12 h => ?_) (fun g12 h => ?_)
      ·refine ww ?_
       cases h
       exact eM [] rfl
      ·refine ww ?_
       refine guardDh h (fun g13 h => ?_) (fun g13 h => ?_)
       ·refine ww ?_
        cases h
        exact eM [] rfl
       ·refine ww ?_
        obtain ⟨t14, ht14, h⟩ := bi h
        refine cN [] (F103_ok ht14) trivial ?_
        refine ww ?_
        cases h
        exact eM [] rfl
   ·rintro _ rfl
    clear ho
    refine ww ?_
    refine condBh h (fun c15 h => ?_) (fun c15 h => ?_)
    ·refine ww ?_
     obtain ⟨fh0o1, hfh0o1, rfl⟩ := Option.map_eq_some_iff.1 h
     have h := hfh0o1.trans h0o1
     cases h
     exact eF []
    ·refine ww ?_
     rw [wrapN (by omega)]
     exact eL' (x0.length - (o1_0 + 1)) [] ⟨o1_0 + 1, ⟨by omega, rfl⟩, rfl, h⟩ (by omega)
  ·rw [countN (show ¬ ((o1_0 : Int) < (x0.length : Int)) from c2), F86_l1] at h
   refine ww ?_
   cases h
   exact eM [] ⟨_, rfl, rfl⟩
 ·rintro _ ⟨po1, rfl, rfl⟩
  clear ho
  dsimp only at h
  refine ww ?_
  cases h
  exact eF []

/- orchestrator/meta.Valid -/
def F58 (x0 : Meta) : Option (Bool) := (((if (if x0.DeleteAt < (if x0.Created < (if x0.Generation < (if x0.Version < x0.Uid then x0.Version else x0.Uid) then x0.Generation else (if x0.Version < x0.Uid then x0.Version else x0.Uid)) then x0.Created else (if x0.Generation < (if x0.Version < x0.Uid then x0.Version else x0.Uid) then x0.Generation else (if x0.Version < x0.Uid then x0.Version else x0.Uid))) then x0.DeleteAt else (if x0.Created < (if x0.Generation < (if x0.Version < x0.Uid then x0.Version else x0.Uid) then x0.Generation else (if x0.Version < x0.Uid then x0.Version else x0.Uid)) then x0.Created else (if x0.Generation < (if x0.Version < x0.Uid then x0.Version else x0.Uid) then x0.Generation else (if x0.Version < x0.Uid then x0.Version else x0.Uid)))) < 0 then some true else (if (nb x0.Deleting) = true then some (decide (¬ (x0.DeleteAt = 0))) else some false))).bind fun o1 => (if o1 = true then some false else (((F80 x0.Kind).bind fun t6 => (if t6 = true then (F81 x0.Namespace).bind fun t8 => (if t8 = true then (F82 x0.Name).bind fun t10 => (if t10 = true then (F83 x0.Labels).bind fun t12 => (if t12 = true then (F84 x0.Owners).bind fun t14 => (if t14 = true then (F85 x0.Finalizers).bind fun t16 => (if t16 = true then (F86 x0.Managers).bind fun t18 => some t18 else some false) else some false) else some false) else some false) else some false) else some false)).bind fun o5 => some o5)))
def a58 : AFn := ⟨58, [(.tmp 2)],
 (.seq (.reg [sq 1 (.box (.t 0)),
sq 2 (.mv (kB false))])
 (.seq (.seq (.sem (.reg [sq 3 (.fieldA 3 (.t 1)),
sq 4 (.load none (.t 3)),
sq 5 (.fieldA 4 (.t 1)),
sq 6 (.load none (.t 5)),
sq 7 (.fieldA 5 (.t 1)),
sq 8 (.load none (.t 7)),
sq 9 (.fieldA 6 (.t 1)),
sq 10 (.load none (.t 9)),
sq 11 (.fieldA 8 (.t 1)),
sq 12 (.load none (.t 11)),
sq 13 (.mins (.t 4) [(.t 6), (.t 8), (.t 10), (.t 12)]),
sq 14 (.bin .lss (.t 13) (kI 0)),
sq 15 (.mv (.t 14)),
⟨(some 16), (some (15, false)), .fieldA 7 (.t 1), [], (.new [])⟩,
⟨(some 17), (some (15, false)), .load none (.t 16), [], (.new [])⟩,
⟨(some 18), (some (15, false)), .not (.t 17), [], (.new [])⟩,
⟨(some 19), (some (15, false)), .mv (.t 18), [], (.new [])⟩,
⟨(some 20), (some (19, true)), .fieldA 8 (.t 1), [], (.new [])⟩,
⟨(some 21), (some (19, true)), .load none (.t 20), [], (.new [])⟩,
⟨(some 22), (some (19, true)), .bin .neq (.t 21) (kI 0), [], (.new [])⟩,
⟨(some 23), (some (15, false)), .pick (.t 19) (.t 22) (kB false), [], (.new [])⟩,
sq 24 (.pick (.t 15) (kB true) (.t 23))]))
 (.cond (.t 24)
 (.seq (.reg [sq 2 (.mv (kB false))])
 .ret)
 .skip))
 (.seq (.sem (.reg [sq 25 (.fieldA 0 (.t 1)),
sq 26 (.load none (.t 25)),
sq 27 (.call 80 [(.t 26)]),
sq 28 (.mv (.t 27)),
⟨(some 29), (some (28, true)), .fieldA 1 (.t 1), [], (.new [])⟩,
⟨(some 30), (some (28, true)), .load none (.t 29), [], (.new [])⟩,
⟨(some 31), (some (28, true)), .call 81 [(.t 30)], [], (.new [])⟩,
sq 32 (.pick (.t 28) (.t 31) (kB false)),
sq 33 (.mv (.t 32)),
⟨(some 34), (some (33, true)), .fieldA 2 (.t 1), [], (.new [])⟩,
⟨(some 35), (some (33, true)), .load none (.t 34), [], (.new [])⟩,
⟨(some 36), (some (33, true)), .call 82 [(.t 35)], [], (.new [])⟩,
sq 37 (.pick (.t 33) (.t 36) (kB false)),
sq 38 (.mv (.t 37)),
⟨(some 39), (some (38, true)), .fieldA 9 (.t 1), [], (.new [])⟩,
⟨(some 40), (some (38, true)), .load none (.t 39), [], (.new [])⟩,
⟨(some 41), (some (38, true)), .call 83 [(.t 40)], [], (.new [])⟩,
sq 42 (.pick (.t 38) (.t 41) (kB false)),
sq 43 (.mv (.t 42)),
⟨(some 44), (some (43, true)), .fieldA 10 (.t 1), [], (.new [])⟩,
⟨(some 45), (some (43, true)), .load none (.t 44), [], (.new [])⟩,
⟨(some 46), (some (43, true)), .call 84 [(.t 45)], [], (.new [])⟩,
sq 47 (.pick (.t 43) (.t 46) (kB false)),
sq 48 (.mv (.t 47)),
⟨(some 49), (some (48, true)), .fieldA 11 (.t 1), [], (.new [])⟩,
⟨(some 50), (some (48, true)), .load none (.t 49), [], (.new [])⟩,
⟨(some 51), (some (48, true)), .call 85 [(.t 50)], [], (.new [])⟩,
sq 52 (.pick (.t 48) (.t 51) (kB false)),
sq 53 (.mv (.t 52)),
⟨(some 54), (some (53, true)), .fieldA 12 (.t 1), [], (.new [])⟩,
⟨(some 55), (some (53, true)), .load none (.t 54), [], (.new [])⟩,
⟨(some 56), (some (53, true)), .call 86 [(.t 55)], [], (.new [])⟩,
sq 57 (.pick (.t 53) (.t 56) (kB false)),
sq 2 (.mv (.t 57))]))
 .ret)))⟩
theorem a58_ok : afn Try.prog 58 = some a58.er := by kernel_rfl
theorem F58_ok {x0 : Meta} {r : Bool} (h : F58 x0 = some r) : CallD Try.prog 58 [.agg [dS x0.Kind, dS x0.Namespace, dS x0.Name, dI x0.Uid, dI x0.Version, dI x0.Generation, dI x0.Created, dB x0.Deleting, dI x0.DeleteAt, dM (x0.Labels.map eLabel), dM (x0.Owners.map eOwner), dM (x0.Finalizers.map eS), dM (x0.Managers.map eManager)]] [] (tupV [.c (dB r)]) [] := by
 refine callS a58_ok (by simp [a58]) ?_
 rw [F58] at h
 simp only [a58, VW.down, Nat.reduceEqDiff, reduceCtorEq, Nat.reduceAdd, Nat.reduceLeDiff, Nat.reduceLT, Nat.reduceBEq, Nat.reduceSub, EE.down]
 obtain ⟨o1, ho, h⟩ := bi h
 refine cutS (fun s => s = ⟨[(1, .one (.c (.pt 0 0))), (24, .one (.c (dB o1)))], [some (.box [dS x0.Kind, dS x0.Namespace, dS x0.Name, dI x0.Uid, dI x0.Version, dI x0.Generation, dI x0.Created, dB x0.Deleting, dI x0.DeleteAt, dM (x0.Labels.map eLabel), dM (x0.Owners.map eOwner), dM (x0.Finalizers.map eS), dM (x0.Managers.map eManager)])]⟩) ?_ ?_
 ·have h := ho
  clear ho
  refine ww ?_
  refine guardSh h (fun g2 h => ?_) (fun g2 h => ?_)
  ·refine ww ?_
   cases h
   exact eM [some 0] rfl
  ·refine ww ?_
   refine guardSBh h (fun g3 h => ?_) (fun g3 h => ?_)
   ·refine ww ?_
    cases h
    exact eM [some 0] rfl
   ·refine ww ?_
    cases h
    exact eM [some 0] rfl
 ·rintro _ rfl
  clear ho
  refine ww ?_
  refine condBh h (fun c4 h => ?_) (fun c4 h => ?_)
  ·refine ww ?_
   cases h
   exact eF []
  ·refine ww ?_
   obtain ⟨o5, ho, h⟩ := bi h
   refine cutS (fun s => s = ⟨[(2, .one (.c (dB o5)))], []⟩) ?_ ?_
   ·have h := ho
    clear ho
    refine ww ?_
    obtain ⟨t6, ht6, h⟩ := bi h
    refine cN [] (F80_ok ht6) trivial ?_
    refine ww ?_
    refine guardSBh h (fun g7 h => ?_) (fun g7 h => ?_)
    ·refine ww ?_
     obtain ⟨t8, ht8, h⟩ := bi h
     refine cN [] (F81_ok ht8) trivial ?_
     refine ww ?_
     refine guardSBh h (fun g9 h => ?_) (fun g9 h => ?_)
     ·refine ww ?_
      obtain ⟨t10, ht10, h⟩ := bi h
      refine cN [] (F82_ok ht10) trivial ?_
      refine ww ?_
      refine guardSBh h (fun g11 h => ?_) (fun g11 h => ?_)
      ·refine ww ?_
       obtain ⟨t12, ht12, h⟩ := bi h
       refine cN [] (F83_ok ht12) trivial ?_
       refine ww ?_
       refine guardSBh h (fun g13 h => ?_) (fun g13 h => ?_)
       ·refine ww ?_
        obtain ⟨t14, ht14, h⟩ := bi h
        refine cN [] (F84_ok ht14) trivial ?_
        refine ww ?_
        refine guardSBh h (fun g15 h => ?_) (fun g15 h => ?_)
        ·refine ww ?_
         obtain ⟨t16, ht16, h⟩ := bi h
         refine cN [] (F85_ok ht16) trivial ?_
         refine ww ?_
         refine guardSBh h (fun g17 h => ?_) (fun g17 h => ?_)
         ·refine ww ?_
          obtain ⟨t18, ht18, h⟩ := bi h
          refine cN [] (F86_ok ht18) trivial ?_
          refine ww ?_
          cases h
          exact eM [] rfl
         ·refine ww ?_
          cases h
          exact eM [] rfl
        ·refine ww ?_
         cases h
         exact eM [] rfl
       ·refine ww ?_
        cases h
        exact eM [] rfl
      ·refine ww ?_
       cases h
       exact eM [] rfl
     ·refine ww ?_
      cases h
      exact eM [] rfl
    ·refine ww ?_
     cases h
     exact eM [] rfl
   ·rintro _ rfl
    clear ho
    refine ww ?_
    cases h
    exact eF []

/- orchestrator/value.text -/
def F111_l1 (x0 : ByteArray) : Nat → Int → Option ((Bool) ⊕ (Unit))
  | 0, _ => none
  | k + 1, o1_0 => (if o1_0 < (x0.size : Int) then (((byI x0 o1_0).bind fun y4 => (if ¬ (y4 = 10) then (byI x0 o1_0).bind fun y6 => (if y6 < 32 then some true else (byI x0 o1_0).bind fun y8 => some (decide (126 < y8))) else some false)).bind fun o3 => (if o3 = true then (some false).map Sum.inl else F111_l1 x0 k ((IntKind.i64.wrap (o1_0 + 1))))) else some (Sum.inr (())))
def F111 (x0 : ByteArray) : Option (Bool) := ((F111_l1 x0 1099511627776 0 : Option ((Bool) ⊕ (Unit))).bind fun o1 => match o1 with | Sum.inl f => some f | Sum.inr po1 => some (decide ((x0.size : Int) ≤ 200)))
def a111 : AFn := ⟨29, [(.tmp 2)],
 (.seq (.reg [sq 2 (.mv (kB false))])
 (.seq (.seq (.reg [sq 4 (.mv (.t 0)),
sq 5 (.slen (.t 4)),
sq 6 (.mv (kI 0))])
 (.sem (.block 0 (.loop (.seq (.reg [sq 7 (.bin .lss (.t 6) (.t 5))])
 (.seq (.cond (.t 7)
 .skip
 (.exit 0))
 (.seq (.block 1 (.seq (.reg [sq 8 (.mv (.t 6)),
sq 3 (.mv (.t 8))])
 (.seq (.sem (.reg [sq 9 (.mv (.t 0)),
sq 10 (.mv (.t 3)),
sq 11 (.sidx (.t 9) (.t 10)),
sq 12 (.bin .neq (.t 11) (.k (.c (.d (.v (.int .u8 10)))))),
sq 13 (.mv (.t 12)),
⟨(some 14), (some (13, true)), .mv (.t 0), [], (.new [])⟩,
⟨(some 15), (some (13, true)), .mv (.t 3), [], (.new [])⟩,
⟨(some 16), (some (13, true)), .sidx (.t 14) (.t 15), [], (.new [])⟩,
⟨(some 17), (some (13, true)), .bin .lss (.t 16) (.k (.c (.d (.v (.int .u8 32))))), [], (.new [])⟩,
⟨(some 18), (some (13, true)), .mv (.t 17), [], (.new [])⟩,
⟨(some 19), (some (18, false)), .mv (.t 0), [], (.new [])⟩,
⟨(some 20), (some (18, false)), .mv (.t 3), [], (.new [])⟩,
⟨(some 21), (some (18, false)), .sidx (.t 19) (.t 20), [], (.new [])⟩,
⟨(some 22), (some (18, false)), .bin .gtr (.t 21) (.k (.c (.d (.v (.int .u8 126))))), [], (.new [])⟩,
⟨(some 23), (some (13, true)), .pick (.t 18) (kB true) (.t 22), [], (.new [])⟩,
sq 24 (.pick (.t 13) (.t 23) (kB false))]))
 (.cond (.t 24)
 (.seq (.reg [sq 2 (.mv (kB false))])
 .ret)
 .skip))))
 (.reg [sq 25 (.bin .add (.t 6) (kI 1)),
sq 6 (.mv (.t 25))]))))))))
 (.seq (.reg [sq 26 (.mv (.t 0)),
sq 27 (.slen (.t 26)),
sq 28 (.bin .leq (.t 27) (kI 200)),
sq 2 (.mv (.t 28))])
 .ret)))⟩
theorem a111_ok : afn Try.prog 111 = some a111.er := by kernel_rfl
theorem F111_ok {x0 : ByteArray} {r : Bool} (h : F111 x0 = some r) : CallD Try.prog 111 [.c (dS x0)] [] (tupV [.c (dB r)]) [] := by
 refine callS a111_ok (by simp [a111]) ?_
 rw [F111] at h
 simp only [a111, VW.down, Nat.reduceEqDiff, reduceCtorEq, Nat.reduceAdd, Nat.reduceLeDiff, Nat.reduceLT, Nat.reduceBEq, Nat.reduceSub, EE.down]
 obtain ⟨o1, ho, h⟩ := bi h
 refine cutS (fun s => ∃ po1, o1 = Sum.inr po1 ∧ s = ⟨[(0, .one (.c (dS x0)))], []⟩) ?_ ?_
 ·have h0o1 := h
  have h := ho
  clear ho
  refine ww ?_
  refine bL (fun j s => ∃ (o1_0 : Int), s = ⟨[(0, .one (.c (dS x0))), (5, .one (.c (dI ((x0.size : Int))))), (6, .one (.c (dI o1_0)))], []⟩ ∧ F111_l1 x0 j o1_0 = some o1) 1099511627776 [] ⟨0, rfl, h⟩ ?_
  rintro j _ ⟨o1_0, rfl, h⟩
  cases j with
  | zero => cases (show (none : Option _) = some _ from h)
  | succ j =>
   rw [F111_l1] at h
   refine ww ?_
   refine condSh h (fun c2 h => ?_) (fun c2 h => ?_)
   ·refine ww ?_
    obtain ⟨o3, ho, h⟩ := bi h
    refine cutS (fun s => s = ⟨[(0, .one (.c (dS x0))), (5, .one (.c (dI ((x0.size : Int))))), (6, .one (.c (dI o1_0))), (24, .one (.c (dB o3)))], []⟩) ?_ ?_
    ·have h := ho
     clear ho
     refine ww ?_
     obtain ⟨y4, hy4, h⟩ := bi h
     refine t_sidx rfl rfl hy4 ?_
     refine ww ?_
     refine guardSh h (fun g5 h => ?_) (fun g5 h => ?_)
     ·refine ww ?_
      obtain ⟨y6, hy6, h⟩ := bi h
      refine t_sidx rfl rfl hy6 ?_
      refine ww ?_
      refine guardSh h (fun g7 h => ?_) (fun g7 h => ?_)
      ·refine ww ?_
       cases h
       exact eM [] rfl
      ·refine ww ?_
       obtain ⟨y8, hy8, h⟩ := bi h
       refine t_sidx rfl rfl hy8 ?_
       refine ww ?_
       cases h
       exact eM [] rfl
     ·refine ww ?_
      cases h
      exact eM [] rfl
    ·rintro _ rfl
     clear ho
     refine ww ?_
     refine condBh h (fun c9 h => ?_) (fun c9 h => ?_)
     ·refine ww ?_
      obtain ⟨fh0o1, hfh0o1, rfl⟩ := Option.map_eq_some_iff.1 h
      have h := hfh0o1.trans h0o1
      cases h
      exact eF []
     ·refine ww ?_
      exact eL' j [] ⟨(IntKind.i64.wrap (o1_0 + 1)), rfl, h⟩ (Nat.lt_succ_self _)
   ·refine ww ?_
    cases h
    exact eM [] ⟨_, rfl, rfl⟩
 ·rintro _ ⟨po1, rfl, rfl⟩
  clear ho
  dsimp only at h
  refine ww ?_
  cases h
  exact eF []

/- orchestrator/value.scalar -/
def F104 (x0 : TValue) : Option (Bool) := (if x0.Kind = 1 then (((if x0.S = (⟨#[]⟩ : ByteArray) then (if x0.N = 0 then some true else some (decide (x0.N = 1))) else some false)).bind fun o2 => some o2) else (if x0.Kind = 2 then (((if x0.S = (⟨#[]⟩ : ByteArray) then (if (-1000000000000000) ≤ x0.N then some (decide (x0.N ≤ 1000000000000000)) else some false) else some false)).bind fun o6 => some o6) else (if x0.Kind = 3 then (((if x0.N = 0 then (F111 x0.S).bind fun t12 => some t12 else some false)).bind fun o10 => some o10) else (((if x0.Kind = 0 then some (decide (x0.Kind = 0)) else (if x0.Kind = 4 then some (decide (x0.Kind = 4)) else some (decide (x0.Kind = 5))))).bind fun o13 => (if o13 = true then (((if x0.N = 0 then some (decide (x0.S = (⟨#[]⟩ : ByteArray))) else some false)).bind fun o17 => some o17) else some false)))))
def a104 : AFn := ⟨57, [(.tmp 2)],
 (.seq (.reg [sq 1 (.box (.t 0)),
sq 2 (.mv (kB false))])
 (.seq (.seq (.reg [sq 3 (.fieldA 0 (.t 1)),
sq 4 (.load none (.t 3))])
 (.block 0 (.seq (.reg [sq 6 (.bin .eql (.t 4) (kI 1)),
sq 5 (.mv (.t 6))])
 (.cond (.t 5)
 (.seq (.sem (.reg [sq 7 (.fieldA 2 (.t 1)),
sq 8 (.load none (.t 7)),
sq 9 (.bin .eql (.t 8) (kS ⟨#[]⟩)),
sq 10 (.mv (.t 9)),
⟨(some 11), (some (10, true)), .fieldA 1 (.t 1), [], (.new [])⟩,
⟨(some 12), (some (10, true)), .load none (.t 11), [], (.new [])⟩,
⟨(some 13), (some (10, true)), .bin .eql (.t 12) (kI 0), [], (.new [])⟩,
⟨(some 14), (some (10, true)), .mv (.t 13), [], (.new [])⟩,
⟨(some 15), (some (14, false)), .fieldA 1 (.t 1), [], (.new [])⟩,
⟨(some 16), (some (14, false)), .load none (.t 15), [], (.new [])⟩,
⟨(some 17), (some (14, false)), .bin .eql (.t 16) (kI 1), [], (.new [])⟩,
⟨(some 18), (some (10, true)), .pick (.t 14) (kB true) (.t 17), [], (.new [])⟩,
sq 19 (.pick (.t 10) (.t 18) (kB false)),
sq 2 (.mv (.t 19))]))
 .ret)
 (.seq (.reg [sq 21 (.bin .eql (.t 4) (kI 2)),
sq 20 (.mv (.t 21))])
 (.cond (.t 20)
 (.seq (.sem (.reg [sq 22 (.fieldA 2 (.t 1)),
sq 23 (.load none (.t 22)),
sq 24 (.bin .eql (.t 23) (kS ⟨#[]⟩)),
sq 25 (.mv (.t 24)),
⟨(some 26), (some (25, true)), .fieldA 1 (.t 1), [], (.new [])⟩,
⟨(some 27), (some (25, true)), .load none (.t 26), [], (.new [])⟩,
⟨(some 28), (some (25, true)), .bin .geq (.t 27) (kI (-1000000000000000)), [], (.new [])⟩,
sq 29 (.pick (.t 25) (.t 28) (kB false)),
sq 30 (.mv (.t 29)),
⟨(some 31), (some (30, true)), .fieldA 1 (.t 1), [], (.new [])⟩,
⟨(some 32), (some (30, true)), .load none (.t 31), [], (.new [])⟩,
⟨(some 33), (some (30, true)), .bin .leq (.t 32) (kI 1000000000000000), [], (.new [])⟩,
sq 34 (.pick (.t 30) (.t 33) (kB false)),
sq 2 (.mv (.t 34))]))
 .ret)
 (.seq (.reg [sq 36 (.bin .eql (.t 4) (kI 3)),
sq 35 (.mv (.t 36))])
 (.cond (.t 35)
 (.seq (.sem (.reg [sq 37 (.fieldA 1 (.t 1)),
sq 38 (.load none (.t 37)),
sq 39 (.bin .eql (.t 38) (kI 0)),
sq 40 (.mv (.t 39)),
⟨(some 41), (some (40, true)), .fieldA 2 (.t 1), [], (.new [])⟩,
⟨(some 42), (some (40, true)), .load none (.t 41), [], (.new [])⟩,
⟨(some 43), (some (40, true)), .call 111 [(.t 42)], [], (.new [])⟩,
sq 44 (.pick (.t 40) (.t 43) (kB false)),
sq 2 (.mv (.t 44))]))
 .ret)
 (.seq (.sem (.seq (.reg [sq 46 (.bin .eql (.t 4) (kI 0)),
sq 45 (.mv (.t 46))])
 (.cond (.t 45)
 .skip
 (.seq (.reg [sq 47 (.bin .eql (.t 4) (kI 4)),
sq 45 (.mv (.t 47))])
 (.cond (.t 45)
 .skip
 (.reg [sq 48 (.bin .eql (.t 4) (kI 5)),
sq 45 (.mv (.t 48))]))))))
 (.cond (.t 45)
 (.seq (.sem (.reg [sq 49 (.fieldA 1 (.t 1)),
sq 50 (.load none (.t 49)),
sq 51 (.bin .eql (.t 50) (kI 0)),
sq 52 (.mv (.t 51)),
⟨(some 53), (some (52, true)), .fieldA 2 (.t 1), [], (.new [])⟩,
⟨(some 54), (some (52, true)), .load none (.t 53), [], (.new [])⟩,
⟨(some 55), (some (52, true)), .bin .eql (.t 54) (kS ⟨#[]⟩), [], (.new [])⟩,
sq 56 (.pick (.t 52) (.t 55) (kB false)),
sq 2 (.mv (.t 56))]))
 .ret)
 .skip))))))))))
 (.seq (.reg [sq 2 (.mv (kB false))])
 .ret)))⟩
theorem a104_ok : afn Try.prog 104 = some a104.er := by kernel_rfl
theorem F104_ok {x0 : TValue} {r : Bool} (h : F104 x0 = some r) : CallD Try.prog 104 [.agg [dI x0.Kind, dI x0.N, dS x0.S, dM (x0.List_.map eTValue), dM (x0.Fields.map eTField)]] [] (tupV [.c (dB r)]) [] := by
 refine callS a104_ok (by simp [a104]) ?_
 rw [F104] at h
 simp only [a104, VW.down, Nat.reduceEqDiff, reduceCtorEq, Nat.reduceAdd, Nat.reduceLeDiff, Nat.reduceLT, Nat.reduceBEq, Nat.reduceSub, EE.down]
 refine condSh h (fun c1 h => ?_) (fun c1 h => ?_)
 ·refine ww ?_
  obtain ⟨o2, ho, h⟩ := bi h
  refine cutS (fun s => s = ⟨[(2, .one (.c (dB o2)))], []⟩) ?_ ?_
  ·have h := ho
   clear ho
   refine ww ?_
   refine guardSh h (fun g3 h => ?_) (fun g3 h => ?_)
   ·refine ww ?_
    refine guardSh h (fun g4 h => ?_) (fun g4 h => ?_)
    ·refine ww ?_
     cases h
     exact eM [] rfl
    ·refine ww ?_
     cases h
     exact eM [] rfl
   ·refine ww ?_
    cases h
    exact eM [] rfl
  ·rintro _ rfl
   clear ho
   refine ww ?_
   cases h
   exact eF []
 ·refine ww ?_
  refine condSh h (fun c5 h => ?_) (fun c5 h => ?_)
  ·refine ww ?_
   obtain ⟨o6, ho, h⟩ := bi h
   refine cutS (fun s => s = ⟨[(2, .one (.c (dB o6)))], []⟩) ?_ ?_
   ·have h := ho
    clear ho
    refine ww ?_
    refine guardSh h (fun g7 h => ?_) (fun g7 h => ?_)
    ·refine ww ?_
     refine guardSh h (fun g8 h => ?_) (fun g8 h => ?_)
     ·refine ww ?_
      cases h
      exact eM [] rfl
     ·refine ww ?_
      cases h
      exact eM [] rfl
    ·refine ww ?_
     cases h
     exact eM [] rfl
   ·rintro _ rfl
    clear ho
    refine ww ?_
    cases h
    exact eF []
  ·refine ww ?_
   refine condSh h (fun c9 h => ?_) (fun c9 h => ?_)
   ·refine ww ?_
    obtain ⟨o10, ho, h⟩ := bi h
    refine cutS (fun s => s = ⟨[(2, .one (.c (dB o10)))], []⟩) ?_ ?_
    ·have h := ho
     clear ho
     refine ww ?_
     refine guardSh h (fun g11 h => ?_) (fun g11 h => ?_)
     ·refine ww ?_
      obtain ⟨t12, ht12, h⟩ := bi h
      refine cN [] (F111_ok ht12) trivial ?_
      refine ww ?_
      cases h
      exact eM [] rfl
     ·refine ww ?_
      cases h
      exact eM [] rfl
    ·rintro _ rfl
     clear ho
     refine ww ?_
     cases h
     exact eF []
   ·refine ww ?_
    obtain ⟨o13, ho, h⟩ := bi h
    refine cutS (fun s => s = ⟨[(1, .one (.c (.pt 0 0))), (45, .one (.c (dB o13)))], [some (.box [dI x0.Kind, dI x0.N, dS x0.S, dM (x0.List_.map eTValue), dM (x0.Fields.map eTField)])]⟩) ?_ ?_
    ·have h := ho
     clear ho
     refine ww ?_
     refine condSh h (fun c14 h => ?_) (fun c14 h => ?_)
     ·refine ww ?_
      cases h
      exact eM [some 0] rfl
     ·refine ww ?_
      refine condSh h (fun c15 h => ?_) (fun c15 h => ?_)
      ·refine ww ?_
       cases h
       exact eM [some 0] rfl
      ·refine ww ?_
       cases h
       exact eM [some 0] rfl
    ·rintro _ rfl
     clear ho
     refine ww ?_
     refine condBh h (fun c16 h => ?_) (fun c16 h => ?_)
     ·refine ww ?_
      obtain ⟨o17, ho, h⟩ := bi h
      refine cutS (fun s => s = ⟨[(2, .one (.c (dB o17)))], []⟩) ?_ ?_
      ·have h := ho
       clear ho
       refine ww ?_
       refine guardSh h (fun g18 h => ?_) (fun g18 h => ?_)
       ·refine ww ?_
        cases h
        exact eM [] rfl
       ·refine ww ?_
        cases h
        exact eM [] rfl
      ·rintro _ rfl
       clear ho
       refine ww ?_
       cases h
       exact eF []
     ·refine ww ?_
      cases h
      exact eF []

/- orchestrator/value.name -/
def F105_l1 (x0 : ByteArray) : Nat → Int → Option ((Bool) ⊕ (Unit))
  | 0, _ => none
  | k + 1, o1_0 => (if o1_0 < (x0.size : Int) then (byI x0 o1_0).bind fun y3 => (((if 97 ≤ y3 then (if y3 ≤ 122 then some false else (if 65 ≤ y3 then (if y3 ≤ 90 then some false else (if 48 ≤ y3 then (if y3 ≤ 57 then some false else (if y3 = 45 then some false else (if y3 = 95 then some false else some (decide (¬ (y3 = 47)))))) else (if y3 = 45 then some false else (if y3 = 95 then some false else some (decide (¬ (y3 = 47))))))) else (if 48 ≤ y3 then (if y3 ≤ 57 then some false else (if y3 = 45 then some false else (if y3 = 95 then some false else some (decide (¬ (y3 = 47)))))) else (if y3 = 45 then some false else (if y3 = 95 then some false else some (decide (¬ (y3 = 47)))))))) else (if 65 ≤ y3 then (if y3 ≤ 90 then some false else (if 48 ≤ y3 then (if y3 ≤ 57 then some false else (if y3 = 45 then some false else (if y3 = 95 then some false else some (decide (¬ (y3 = 47)))))) else (if y3 = 45 then some false else (if y3 = 95 then some false else some (decide (¬ (y3 = 47))))))) else (if 48 ≤ y3 then (if y3 ≤ 57 then some false else (if y3 = 45 then some false else (if y3 = 95 then some false else some (decide (¬ (y3 = 47)))))) else (if y3 = 45 then some false else (if y3 = 95 then some false else some (decide (¬ (y3 = 47))))))))).bind fun o4 => (if o4 = true then (some false).map Sum.inl else F105_l1 x0 k ((IntKind.i64.wrap (o1_0 + 1))))) else some (Sum.inr (())))
def F105 (x0 : ByteArray) : Option (Bool) := ((F105_l1 x0 1099511627776 0 : Option ((Bool) ⊕ (Unit))).bind fun o1 => match o1 with | Sum.inl f => some f | Sum.inr po1 => (((if 1 ≤ (x0.size : Int) then some (decide ((x0.size : Int) ≤ 40)) else some false)).bind fun o36 => some o36))
def a105 : AFn := ⟨57, [(.tmp 2)],
 (.seq (.reg [sq 2 (.mv (kB false))])
 (.seq (.seq (.reg [sq 5 (.mv (.t 0)),
sq 6 (.slen (.t 5)),
sq 7 (.mv (kI 0))])
 (.sem (.block 0 (.loop (.seq (.reg [sq 8 (.bin .lss (.t 7) (.t 6))])
 (.seq (.cond (.t 8)
 .skip
 (.exit 0))
 (.seq (.block 1 (.seq (.reg [sq 9 (.mv (.t 7)),
sq 3 (.mv (.t 9))])
 (.seq (.reg [sq 10 (.mv (.t 0)),
sq 11 (.mv (.t 3)),
sq 12 (.sidx (.t 10) (.t 11)),
sq 4 (.mv (.t 12))])
 (.seq (.sem (.reg [sq 13 (.mv (.t 4)),
sq 14 (.bin .geq (.t 13) (.k (.c (.d (.v (.int .u8 97)))))),
sq 15 (.mv (.t 14)),
⟨(some 16), (some (15, true)), .mv (.t 4), [], (.new [])⟩,
⟨(some 17), (some (15, true)), .bin .leq (.t 16) (.k (.c (.d (.v (.int .u8 122))))), [], (.new [])⟩,
sq 18 (.pick (.t 15) (.t 17) (kB false)),
sq 19 (.mv (.t 18)),
⟨(some 20), (some (19, false)), .mv (.t 4), [], (.new [])⟩,
⟨(some 21), (some (19, false)), .bin .geq (.t 20) (.k (.c (.d (.v (.int .u8 65))))), [], (.new [])⟩,
⟨(some 22), (some (19, false)), .mv (.t 21), [], (.new [])⟩,
⟨(some 23), (some (22, true)), .mv (.t 4), [], (.new [])⟩,
⟨(some 24), (some (22, true)), .bin .leq (.t 23) (.k (.c (.d (.v (.int .u8 90))))), [], (.new [])⟩,
⟨(some 25), (some (19, false)), .pick (.t 22) (.t 24) (kB false), [], (.new [])⟩,
sq 26 (.pick (.t 19) (kB true) (.t 25)),
sq 27 (.mv (.t 26)),
⟨(some 28), (some (27, false)), .mv (.t 4), [], (.new [])⟩,
⟨(some 29), (some (27, false)), .bin .geq (.t 28) (.k (.c (.d (.v (.int .u8 48))))), [], (.new [])⟩,
⟨(some 30), (some (27, false)), .mv (.t 29), [], (.new [])⟩,
⟨(some 31), (some (30, true)), .mv (.t 4), [], (.new [])⟩,
⟨(some 32), (some (30, true)), .bin .leq (.t 31) (.k (.c (.d (.v (.int .u8 57))))), [], (.new [])⟩,
⟨(some 33), (some (27, false)), .pick (.t 30) (.t 32) (kB false), [], (.new [])⟩,
sq 34 (.pick (.t 27) (kB true) (.t 33)),
sq 35 (.mv (.t 34)),
⟨(some 36), (some (35, false)), .mv (.t 4), [], (.new [])⟩,
⟨(some 37), (some (35, false)), .bin .eql (.t 36) (.k (.c (.d (.v (.int .u8 45))))), [], (.new [])⟩,
sq 38 (.pick (.t 35) (kB true) (.t 37)),
sq 39 (.mv (.t 38)),
⟨(some 40), (some (39, false)), .mv (.t 4), [], (.new [])⟩,
⟨(some 41), (some (39, false)), .bin .eql (.t 40) (.k (.c (.d (.v (.int .u8 95))))), [], (.new [])⟩,
sq 42 (.pick (.t 39) (kB true) (.t 41)),
sq 43 (.mv (.t 42)),
⟨(some 44), (some (43, false)), .mv (.t 4), [], (.new [])⟩,
⟨(some 45), (some (43, false)), .bin .eql (.t 44) (.k (.c (.d (.v (.int .u8 47))))), [], (.new [])⟩,
sq 46 (.pick (.t 43) (kB true) (.t 45)),
sq 47 (.not (.t 46))]))
 (.cond (.t 47)
 (.seq (.reg [sq 2 (.mv (kB false))])
 .ret)
 .skip)))))
 (.reg [sq 48 (.bin .add (.t 7) (kI 1)),
sq 7 (.mv (.t 48))]))))))))
 (.seq (.sem (.reg [sq 49 (.mv (.t 0)),
sq 50 (.slen (.t 49)),
sq 51 (.bin .geq (.t 50) (kI 1)),
sq 52 (.mv (.t 51)),
⟨(some 53), (some (52, true)), .mv (.t 0), [], (.new [])⟩,
⟨(some 54), (some (52, true)), .slen (.t 53), [], (.new [])⟩,
⟨(some 55), (some (52, true)), .bin .leq (.t 54) (kI 40), [], (.new [])⟩,
sq 56 (.pick (.t 52) (.t 55) (kB false)),
sq 2 (.mv (.t 56))]))
 .ret)))⟩
theorem a105_ok : afn Try.prog 105 = some a105.er := by kernel_rfl
theorem F105_ok {x0 : ByteArray} {r : Bool} (h : F105 x0 = some r) : CallD Try.prog 105 [.c (dS x0)] [] (tupV [.c (dB r)]) [] := by
 refine callS a105_ok (by simp [a105]) ?_
 rw [F105] at h
 simp only [a105, VW.down, Nat.reduceEqDiff, reduceCtorEq, Nat.reduceAdd, Nat.reduceLeDiff, Nat.reduceLT, Nat.reduceBEq, Nat.reduceSub, EE.down]
 obtain ⟨o1, ho, h⟩ := bi h
 refine cutS (fun s => ∃ po1, o1 = Sum.inr po1 ∧ s = ⟨[(0, .one (.c (dS x0)))], []⟩) ?_ ?_
 ·have h0o1 := h
  have h := ho
  clear ho
  refine ww ?_
  refine bL (fun j s => ∃ (o1_0 : Int), s = ⟨[(0, .one (.c (dS x0))), (6, .one (.c (dI ((x0.size : Int))))), (7, .one (.c (dI o1_0)))], []⟩ ∧ F105_l1 x0 j o1_0 = some o1) 1099511627776 [] ⟨0, rfl, h⟩ ?_
  rintro j _ ⟨o1_0, rfl, h⟩
  cases j with
  | zero => cases (show (none : Option _) = some _ from h)
  | succ j =>
   rw [F105_l1] at h
   refine ww ?_
   refine condSh h (fun c2 h => ?_) (fun c2 h => ?_)
   ·refine ww ?_
    obtain ⟨y3, hy3, h⟩ := bi h
    refine t_sidx rfl rfl hy3 ?_
    refine ww ?_
    obtain ⟨o4, ho, h⟩ := bi h
    refine cutS (fun s => s = ⟨[(0, .one (.c (dS x0))), (6, .one (.c (dI ((x0.size : Int))))), (7, .one (.c (dI o1_0))), (47, .one (.c (dB o4)))], []⟩) ?_ ?_
    ·have h := ho
     clear ho
     refine ww ?_
     refine guardSh h (fun g5 h => ?_) (fun g5 h => ?_)
     ·refine ww ?_
      refine guardSh h (fun g6 h => ?_) (fun g6 h => ?_)
      ·refine ww ?_
       cases h
       exact eM [] rfl
      ·refine ww ?_
       refine guardSh h (fun g7 h => ?_) (fun g7 h => ?_)
       ·refine ww ?_
        refine guardSh h (fun g8 h => ?_) (fun g8 h => ?_)
        ·refine ww ?_
         cases h
         exact eM [] rfl
        ·refine ww ?_
         refine guardSh h (fun g9 h => ?_) (fun g9 h => ?_)
         ·refine ww ?_
          refine guardSh h (fun g10 h => ?_) (fun g10 h => ?_)
          ·refine ww ?_
           cases h
           exact eM [] rfl
          ·refine ww ?_
           refine guardSh h (fun g11 h => ?_) (fun g11 h => ?_)
           ·refine ww ?_
            cases h
            exact eM [] rfl
           ·refine ww ?_
            refine guardSh h (fun g12 h => ?_) (fun g12 h => ?_)
            ·refine ww ?_
             cases h
             exact eM [] rfl
            ·refine ww ?_
             cases h
             exact eM [] rfl
         ·refine ww ?_
          refine guardSh h (fun g13 h => ?_) (fun g13 h => ?_)
          ·refine ww ?_
           cases h
           exact eM [] rfl
          ·refine ww ?_
           refine guardSh h (fun g14 h => ?_) (fun g14 h => ?_)
           ·refine ww ?_
            cases h
            exact eM [] rfl
           ·refine ww ?_
            cases h
            exact eM [] rfl
       ·refine ww ?_
        refine guardSh h (fun g15 h => ?_) (fun g15 h => ?_)
        ·refine ww ?_
         refine guardSh h (fun g16 h => ?_) (fun g16 h => ?_)
         ·refine ww ?_
          cases h
          exact eM [] rfl
         ·refine ww ?_
          refine guardSh h (fun g17 h => ?_) (fun g17 h => ?_)
          ·refine ww ?_
           cases h
           exact eM [] rfl
          ·refine ww ?_
           refine guardSh h (fun g18 h => ?_) (fun g18 h => ?_)
           ·refine ww ?_
            cases h
            exact eM [] rfl
           ·refine ww ?_
            cases h
            exact eM [] rfl
        ·refine ww ?_
         refine guardSh h (fun g19 h => ?_) (fun g19 h => ?_)
         ·refine ww ?_
          cases h
          exact eM [] rfl
         ·refine ww ?_
          refine guardSh h (fun g20 h => ?_) (fun g20 h => ?_)
          ·refine ww ?_
           cases h
           exact eM [] rfl
          ·refine ww ?_
           cases h
           exact eM [] rfl
     ·refine ww ?_
      refine guardSh h (fun g21 h => ?_) (fun g21 h => ?_)
      ·refine ww ?_
       refine guardSh h (fun g22 h => ?_) (fun g22 h => ?_)
       ·refine ww ?_
        cases h
        exact eM [] rfl
       ·refine ww ?_
        refine guardSh h (fun g23 h => ?_) (fun g23 h => ?_)
        ·refine ww ?_
         refine guardSh h (fun g24 h => ?_) (fun g24 h => ?_)
         ·refine ww ?_
          cases h
          exact eM [] rfl
         ·refine ww ?_
          refine guardSh h (fun g25 h => ?_) (fun g25 h => ?_)
          ·refine ww ?_
           cases h
           exact eM [] rfl
          ·refine ww ?_
           refine guardSh h (fun g26 h => ?_) (fun g26 h => ?_)
           ·refine ww ?_
            cases h
            exact eM [] rfl
           ·refine ww ?_
            cases h
            exact eM [] rfl
        ·refine ww ?_
         refine guardSh h (fun g27 h => ?_) (fun g27 h => ?_)
         ·refine ww ?_
          cases h
          exact eM [] rfl
         ·refine ww ?_
          refine guardSh h (fun g28 h => ?_) (fun g28 h => ?_)
          ·refine ww ?_
           cases h
           exact eM [] rfl
          ·refine ww ?_
           cases h
           exact eM [] rfl
      ·refine ww ?_
       refine guardSh h (fun g29 h => ?_) (fun g29 h => ?_)
       ·refine ww ?_
        refine guardSh h (fun g30 h => ?_) (fun g30 h => ?_)
        ·refine ww ?_
         cases h
         exact eM [] rfl
        ·refine ww ?_
         refine guardSh h (fun g31 h => ?_) (fun g31 h => ?_)
         ·refine ww ?_
          cases h
          exact eM [] rfl
         ·refine ww ?_
          refine guardSh h (fun g32 h => ?_) (fun g32 h => ?_)
          ·refine ww ?_
           cases h
           exact eM [] rfl
          ·refine ww ?_
           cases h
           exact eM [] rfl
       ·refine ww ?_
        refine guardSh h (fun g33 h => ?_) (fun g33 h => ?_)
        ·refine ww ?_
         cases h
         exact eM [] rfl
        ·refine ww ?_
         refine guardSh h (fun g34 h => ?_) (fun g34 h => ?_)
         ·refine ww ?_
          cases h
          exact eM [] rfl
         ·refine ww ?_
          cases h
          exact eM [] rfl
    ·rintro _ rfl
     clear ho
     refine ww ?_
     refine condBh h (fun c35 h => ?_) (fun c35 h => ?_)
     ·refine ww ?_
      obtain ⟨fh0o1, hfh0o1, rfl⟩ := Option.map_eq_some_iff.1 h
      have h := hfh0o1.trans h0o1
      cases h
      exact eF []
     ·refine ww ?_
      exact eL' j [] ⟨(IntKind.i64.wrap (o1_0 + 1)), rfl, h⟩ (Nat.lt_succ_self _)
   ·refine ww ?_
    cases h
    exact eM [] ⟨_, rfl, rfl⟩
 ·rintro _ ⟨po1, rfl, rfl⟩
  clear ho
  dsimp only at h
  refine ww ?_
  obtain ⟨o36, ho, h⟩ := bi h
  refine cutS (fun s => s = ⟨[(2, .one (.c (dB o36)))], []⟩) ?_ ?_
  ·have h := ho
   clear ho
   refine ww ?_
   refine guardSh h (fun g37 h => ?_) (fun g37 h => ?_)
   ·refine ww ?_
    cases h
    exact eM [] rfl
   ·refine ww ?_
    cases h
    exact eM [] rfl
  ·rintro _ rfl
   clear ho
   refine ww ?_
   cases h
   exact eF []
end Go.Proofs.Ytbopaemngpbdgaa
