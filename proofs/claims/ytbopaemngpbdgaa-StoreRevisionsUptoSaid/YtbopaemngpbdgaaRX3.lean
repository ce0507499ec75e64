/- Each Go function as a function over typed data, and its walk. -/
import Derived.Test.YtbopaemngpbdgaaRX2
namespace Go.Proofs.Ytbopaemngpbdgaa
open Go Go.Fw Go.Shelf
set_option maxRecDepth 100000
set_option maxHeartbeats 4000000
set_option linter.unusedSimpArgs false
set_option linter.unusedVariables false
/- orchestrator/meta.parts -/
def F37 (x0 : Meta) : Option (Unit) := some (())
def a37 : AFn := ⟨10, [(.cell 2 (some 3))],
 (.seq (.reg [sq 1 (.box (.t 0)),
sq 2 (.zbox [dS ⟨#[]⟩, dS ⟨#[]⟩, dS ⟨#[]⟩])])
 (.seq (.reg [sq 3 (.fieldA 0 (.t 1)),
sq 4 (.load none (.t 3)),
sq 5 (.fieldA 1 (.t 1)),
sq 6 (.load none (.t 5)),
sq 7 (.fieldA 2 (.t 1)),
sq 8 (.load none (.t 7)),
sq 9 (.build [dS ⟨#[]⟩, dS ⟨#[]⟩, dS ⟨#[]⟩] [(0, 1, (.t 4)), (1, 1, (.t 6)), (2, 1, (.t 8))]),
su (.store 3 (.t 2) (.t 9))])
 .ret))⟩
theorem a37_ok : afn Try.prog 37 = some a37.er := by kernel_rfl
theorem F37_ok {x0 : Meta} {r : Unit} (h : F37 x0 = some r) : CallD Try.prog 37 [.agg [dS x0.Kind, dS x0.Namespace, dS x0.Name, dI x0.Uid, dI x0.Version, dI x0.Generation, dI x0.Created, dB x0.Deleting, dI x0.DeleteAt, dM (x0.Labels.map eLabel), dM (x0.Owners.map eOwner), dM (x0.Finalizers.map eS), dM (x0.Managers.map eManager)]] [] (tupV [.agg [dS x0.Kind, dS x0.Namespace, dS x0.Name]]) [] := by
 refine callS a37_ok (by simp [a37]) ?_
 rw [F37] at h
 simp only [a37, VW.down, Nat.reduceEqDiff, reduceCtorEq, Nat.reduceAdd, Nat.reduceLeDiff, Nat.reduceLT, Nat.reduceBEq, Nat.reduceSub, EE.down]
 cases h
 exact eF []

/- slices.Equal[[]orchestrator/api.Label,orchestrator/api.Label] -/
def F38_l2 (x1 : (List Label)) : List Label → Nat → Option ((Bool) ⊕ (Unit))
  | [], o2_0 => some (Sum.inr (()))
  | xo2 :: xs, o2_0 => (rdI x1 ((o2_0 : Int))).bind fun y4 => (if ¬ (xo2.Key = y4.Key ∧ xo2.Value = y4.Value) then (some false).map Sum.inl else F38_l2 x1 xs (o2_0 + 1))
def F38 (x0 : (List Label)) (x1 : (List Label)) : Option (Bool) := (if ¬ ((x0.length : Int) = (x1.length : Int)) then some false else (((ck (0 ≤ x0.length ∧ x0.length ≤ 4294967290)).bind fun u6 => F38_l2 x1 x0 0 : Option ((Bool) ⊕ (Unit))).bind fun o2 => match o2 with | Sum.inl f => some f | Sum.inr po2 => some true))
def a38 : AFn := ⟨26, [(.tmp 4)],
 (.seq (.reg [sq 4 (.mv (kB false))])
 (.seq (.seq (.reg [sq 6 (.mv (.t 0)),
sq 7 (.len (.t 6)),
sq 8 (.mv (.t 1)),
sq 9 (.len (.t 8)),
sq 10 (.bin .neq (.t 7) (.t 9))])
 (.cond (.t 10)
 (.seq (.reg [sq 4 (.mv (kB false))])
 .ret)
 .skip))
 (.seq (.seq (.reg [sq 11 (.mv (.t 0)),
sq 12 (.len (.t 11)),
sq 13 (.mv (kI 0))])
 (.sem (.block 0 (.loop (.seq (.reg [sq 14 (.bin .lss (.t 13) (.t 12))])
 (.seq (.cond (.t 14)
 .skip
 (.exit 0))
 (.seq (.block 1 (.seq (.reg [sq 15 (.mv (.t 13)),
sq 5 (.mv (.t 15))])
 (.seq (.regd [sq 16 (.mv (.t 0)),
sq 17 (.mv (.t 5)),
sd 18 (.indexA 2 (.t 16) (.t 17)) [0, 1],
sd 19 (.load (some 2) (.t 18)) [0, 1, 2],
sq 20 (.mv (.t 1)),
sq 21 (.mv (.t 5)),
sd 22 (.indexA 2 (.t 20) (.t 21)) [4, 5],
sd 23 (.load (some 2) (.t 22)) [4, 5, 6],
⟨(some 24), none, .eqs true [(0, 2), (1, 2)] (.t 19) (.t 23), [0, 1, 2, 3, 4, 5, 6, 7], (.lone [])⟩])
 (.cond (.t 24)
 (.seq (.reg [sq 4 (.mv (kB false))])
 .ret)
 .skip))))
 (.reg [sq 25 (.bin .add (.t 13) (kI 1)),
sq 13 (.mv (.t 25))]))))))))
 (.seq (.reg [sq 4 (.mv (kB true))])
 .ret))))⟩
theorem a38_ok : afn Try.prog 38 = some a38.er := by kernel_rfl
theorem F38_ok {x0 : (List Label)} {x1 : (List Label)} {r : Bool} (h : F38 x0 x1 = some r) : CallD Try.prog 38 [.c (dM (x0.map eLabel)), .c (dM (x1.map eLabel))] [] (tupV [.c (dB r)]) [] := by
 refine callS a38_ok (by simp [a38]) ?_
 rw [F38] at h
 simp only [a38, VW.down, Nat.reduceEqDiff, reduceCtorEq, Nat.reduceAdd, Nat.reduceLeDiff, Nat.reduceLT, Nat.reduceBEq, Nat.reduceSub, EE.down]
 refine condSh h (fun c1 h => ?_) (fun c1 h => ?_)
 ·refine ww ?_
  cases h
  exact eF []
 ·refine ww ?_
  obtain ⟨o2, ho, h⟩ := bi h
  refine cutS (fun s => ∃ po2, o2 = Sum.inr po2 ∧ s = ⟨[], []⟩) ?_ ?_
  ·have h0o2 := h
   have h := ho
   clear ho
   obtain ⟨_, hk, h⟩ := bi h
   have hk := ck_some hk
   refine ww ?_
   refine bL (fun j s => ∃ (o2_0 : Nat), (o2_0 ≤ x0.length ∧ j = x0.length - o2_0) ∧ s = ⟨[(0, .one (.c (dM (x0.map eLabel)))), (1, .one (.c (dM (x1.map eLabel)))), (12, .one (.c (dI ((x0.length : Int))))), (13, .one (.c (dI ((o2_0 : Int)))))], []⟩ ∧ F38_l2 x1 (x0.drop o2_0) o2_0 = some o2) (x0.length - 0) [] ⟨0, ⟨hk.1, rfl⟩, rfl, h⟩ ?_
   rintro _ _ ⟨o2_0, ⟨hi, rfl⟩, rfl, h⟩
   refine ww ?_
   refine condS (fun c3 => ?_) (fun c3 => ?_)
   ·obtain ⟨xo2, hxo2, hd⟩ := countY (show (o2_0 : Int) < (x0.length : Int) from c3)
    rw [hd, F38_l2] at h
    refine ww ?_
    refine t_idxF (enc := eLabel) (xs := x0) rfl rfl hxo2 rfl ?_
    refine ww ?_
    obtain ⟨y4, hy4, h⟩ := bi h
    refine t_idxF (enc := eLabel) (xs := x1) rfl rfl hy4 rfl ?_
    refine ww ?_
    refine condSh h (fun c5 h => ?_) (fun c5 h => ?_)
    ·refine ww ?_
     obtain ⟨fh0o2, hfh0o2, rfl⟩ := Option.map_eq_some_iff.1 h
     have h := hfh0o2.trans h0o2
     cases h
     exact eF []
    ·refine ww ?_
     rw [wrapN (by omega)]
     exact eL' (x0.length - (o2_0 + 1)) [] ⟨o2_0 + 1, ⟨by omega, rfl⟩, rfl, h⟩ (by omega)
   ·rw [countN (show ¬ ((o2_0 : Int) < (x0.length : Int)) from c3), F38_l2] at h
    refine ww ?_
    cases h
    exact eM [] ⟨_, rfl, rfl⟩
  ·rintro _ ⟨po2, rfl, rfl⟩
   clear ho
   dsimp only at h
   refine ww ?_
   cases h
   exact eF []

/- slices.Equal[[]orchestrator/api.Owner,orchestrator/api.Owner] -/
def F39_l2 (x1 : (List Owner)) : List Owner → Nat → Option ((Bool) ⊕ (Unit))
  | [], o2_0 => some (Sum.inr (()))
  | xo2 :: xs, o2_0 => (rdI x1 ((o2_0 : Int))).bind fun y4 => (if (nb ((decide (xo2.Kind = y4.Kind) && (decide (xo2.Name = y4.Name) && (decide (xo2.Uid = y4.Uid) && ((xo2.Controller == y4.Controller) && (xo2.Block == y4.Block))))))) = true then (some false).map Sum.inl else F39_l2 x1 xs (o2_0 + 1))
def F39 (x0 : (List Owner)) (x1 : (List Owner)) : Option (Bool) := (if ¬ ((x0.length : Int) = (x1.length : Int)) then some false else (((ck (0 ≤ x0.length ∧ x0.length ≤ 4294967290)).bind fun u6 => F39_l2 x1 x0 0 : Option ((Bool) ⊕ (Unit))).bind fun o2 => match o2 with | Sum.inl f => some f | Sum.inr po2 => some true))
def a39 : AFn := ⟨26, [(.tmp 4)],
 (.seq (.reg [sq 4 (.mv (kB false))])
 (.seq (.seq (.reg [sq 6 (.mv (.t 0)),
sq 7 (.len (.t 6)),
sq 8 (.mv (.t 1)),
sq 9 (.len (.t 8)),
sq 10 (.bin .neq (.t 7) (.t 9))])
 (.cond (.t 10)
 (.seq (.reg [sq 4 (.mv (kB false))])
 .ret)
 .skip))
 (.seq (.seq (.reg [sq 11 (.mv (.t 0)),
sq 12 (.len (.t 11)),
sq 13 (.mv (kI 0))])
 (.sem (.block 0 (.loop (.seq (.reg [sq 14 (.bin .lss (.t 13) (.t 12))])
 (.seq (.cond (.t 14)
 .skip
 (.exit 0))
 (.seq (.block 1 (.seq (.reg [sq 15 (.mv (.t 13)),
sq 5 (.mv (.t 15))])
 (.seq (.regd [sq 16 (.mv (.t 0)),
sq 17 (.mv (.t 5)),
sd 18 (.indexA 5 (.t 16) (.t 17)) [0, 1],
sd 19 (.load (some 5) (.t 18)) [0, 1, 2],
sq 20 (.mv (.t 1)),
sq 21 (.mv (.t 5)),
sd 22 (.indexA 5 (.t 20) (.t 21)) [4, 5],
sd 23 (.load (some 5) (.t 22)) [4, 5, 6],
⟨(some 24), none, .eqs true [(0, 2), (1, 2), (2, 0), (3, 1), (4, 1)] (.t 19) (.t 23), [0, 1, 2, 3, 4, 5, 6, 7], (.lone [])⟩])
 (.cond (.t 24)
 (.seq (.reg [sq 4 (.mv (kB false))])
 .ret)
 .skip))))
 (.reg [sq 25 (.bin .add (.t 13) (kI 1)),
sq 13 (.mv (.t 25))]))))))))
 (.seq (.reg [sq 4 (.mv (kB true))])
 .ret))))⟩
theorem a39_ok : afn Try.prog 39 = some a39.er := by kernel_rfl
theorem F39_ok {x0 : (List Owner)} {x1 : (List Owner)} {r : Bool} (h : F39 x0 x1 = some r) : CallD Try.prog 39 [.c (dM (x0.map eOwner)), .c (dM (x1.map eOwner))] [] (tupV [.c (dB r)]) [] := by
 refine callS a39_ok (by simp [a39]) ?_
 rw [F39] at h
 simp only [a39, VW.down, Nat.reduceEqDiff, reduceCtorEq, Nat.reduceAdd, Nat.reduceLeDiff, Nat.reduceLT, Nat.reduceBEq, Nat.reduceSub, EE.down]
 refine condSh h (fun c1 h => ?_) (fun c1 h => ?_)
 ·refine ww ?_
  cases h
  exact eF []
 ·refine ww ?_
  obtain ⟨o2, ho, h⟩ := bi h
  refine cutS (fun s => ∃ po2, o2 = Sum.inr po2 ∧ s = ⟨[], []⟩) ?_ ?_
  ·have h0o2 := h
   have h := ho
   clear ho
   obtain ⟨_, hk, h⟩ := bi h
   have hk := ck_some hk
   refine ww ?_
   refine bL (fun j s => ∃ (o2_0 : Nat), (o2_0 ≤ x0.length ∧ j = x0.length - o2_0) ∧ s = ⟨[(0, .one (.c (dM (x0.map eOwner)))), (1, .one (.c (dM (x1.map eOwner)))), (12, .one (.c (dI ((x0.length : Int))))), (13, .one (.c (dI ((o2_0 : Int)))))], []⟩ ∧ F39_l2 x1 (x0.drop o2_0) o2_0 = some o2) (x0.length - 0) [] ⟨0, ⟨hk.1, rfl⟩, rfl, h⟩ ?_
   rintro _ _ ⟨o2_0, ⟨hi, rfl⟩, rfl, h⟩
   refine ww ?_
   refine condS (fun c3 => ?_) (fun c3 => ?_)
   ·obtain ⟨xo2, hxo2, hd⟩ := countY (show (o2_0 : Int) < (x0.length : Int) from c3)
    rw [hd, F39_l2] at h
    refine ww ?_
    refine t_idxF (enc := eOwner) (xs := x0) rfl rfl hxo2 rfl ?_
    refine ww ?_
    obtain ⟨y4, hy4, h⟩ := bi h
    refine t_idxF (enc := eOwner) (xs := x1) rfl rfl hy4 rfl ?_
    refine ww ?_
    refine condBh h (fun c5 h => ?_) (fun c5 h => ?_)
    ·refine ww ?_
     obtain ⟨fh0o2, hfh0o2, rfl⟩ := Option.map_eq_some_iff.1 h
     have h := hfh0o2.trans h0o2
     cases h
     exact eF []
    ·refine ww ?_
     rw [wrapN (by omega)]
     exact eL' (x0.length - (o2_0 + 1)) [] ⟨o2_0 + 1, ⟨by omega, rfl⟩, rfl, h⟩ (by omega)
   ·rw [countN (show ¬ ((o2_0 : Int) < (x0.length : Int)) from c3), F39_l2] at h
    refine ww ?_
    cases h
    exact eM [] ⟨_, rfl, rfl⟩
  ·rintro _ ⟨po2, rfl, rfl⟩
   clear ho
   dsimp only at h
   refine ww ?_
   cases h
   exact eF []

/- slices.Equal[[]string,string] -/
def F40_l2 (x1 : (List ByteArray)) : List ByteArray → Nat → Option ((Bool) ⊕ (Unit))
  | [], o2_0 => some (Sum.inr (()))
  | xo2 :: xs, o2_0 => (rdI x1 ((o2_0 : Int))).bind fun y4 => (if ¬ (xo2 = y4) then (some false).map Sum.inl else F40_l2 x1 xs (o2_0 + 1))
def F40 (x0 : (List ByteArray)) (x1 : (List ByteArray)) : Option (Bool) := (if ¬ ((x0.length : Int) = (x1.length : Int)) then some false else (((ck (0 ≤ x0.length ∧ x0.length ≤ 4294967290)).bind fun u6 => F40_l2 x1 x0 0 : Option ((Bool) ⊕ (Unit))).bind fun o2 => match o2 with | Sum.inl f => some f | Sum.inr po2 => some true))
def a40 : AFn := ⟨26, [(.tmp 4)],
 (.seq (.reg [sq 4 (.mv (kB false))])
 (.seq (.seq (.reg [sq 6 (.mv (.t 0)),
sq 7 (.len (.t 6)),
sq 8 (.mv (.t 1)),
sq 9 (.len (.t 8)),
sq 10 (.bin .neq (.t 7) (.t 9))])
 (.cond (.t 10)
 (.seq (.reg [sq 4 (.mv (kB false))])
 .ret)
 .skip))
 (.seq (.seq (.reg [sq 11 (.mv (.t 0)),
sq 12 (.len (.t 11)),
sq 13 (.mv (kI 0))])
 (.sem (.block 0 (.loop (.seq (.reg [sq 14 (.bin .lss (.t 13) (.t 12))])
 (.seq (.cond (.t 14)
 .skip
 (.exit 0))
 (.seq (.block 1 (.seq (.reg [sq 15 (.mv (.t 13)),
sq 5 (.mv (.t 15))])
 (.seq (.regd [sq 16 (.mv (.t 0)),
sq 17 (.mv (.t 5)),
sd 18 (.indexA 1 (.t 16) (.t 17)) [0, 1],
sd 19 (.load none (.t 18)) [0, 1, 2],
sq 20 (.mv (.t 1)),
sq 21 (.mv (.t 5)),
sd 22 (.indexA 1 (.t 20) (.t 21)) [4, 5],
sd 23 (.load none (.t 22)) [4, 5, 6],
sd 24 (.bin .neq (.t 19) (.t 23)) [0, 1, 2, 3, 4, 5, 6, 7]])
 (.cond (.t 24)
 (.seq (.reg [sq 4 (.mv (kB false))])
 .ret)
 .skip))))
 (.reg [sq 25 (.bin .add (.t 13) (kI 1)),
sq 13 (.mv (.t 25))]))))))))
 (.seq (.reg [sq 4 (.mv (kB true))])
 .ret))))⟩
theorem a40_ok : afn Try.prog 40 = some a40.er := by kernel_rfl
theorem F40_ok {x0 : (List ByteArray)} {x1 : (List ByteArray)} {r : Bool} (h : F40 x0 x1 = some r) : CallD Try.prog 40 [.c (dM (x0.map eS)), .c (dM (x1.map eS))] [] (tupV [.c (dB r)]) [] := by
 refine callS a40_ok (by simp [a40]) ?_
 rw [F40] at h
 simp only [a40, VW.down, Nat.reduceEqDiff, reduceCtorEq, Nat.reduceAdd, Nat.reduceLeDiff, Nat.reduceLT, Nat.reduceBEq, Nat.reduceSub, EE.down]
 refine condSh h (fun c1 h => ?_) (fun c1 h => ?_)
 ·refine ww ?_
  cases h
  exact eF []
 ·refine ww ?_
  obtain ⟨o2, ho, h⟩ := bi h
  refine cutS (fun s => ∃ po2, o2 = Sum.inr po2 ∧ s = ⟨[], []⟩) ?_ ?_
  ·have h0o2 := h
   have h := ho
   clear ho
   obtain ⟨_, hk, h⟩ := bi h
   have hk := ck_some hk
   refine ww ?_
   refine bL (fun j s => ∃ (o2_0 : Nat), (o2_0 ≤ x0.length ∧ j = x0.length - o2_0) ∧ s = ⟨[(0, .one (.c (dM (x0.map eS)))), (1, .one (.c (dM (x1.map eS)))), (12, .one (.c (dI ((x0.length : Int))))), (13, .one (.c (dI ((o2_0 : Int)))))], []⟩ ∧ F40_l2 x1 (x0.drop o2_0) o2_0 = some o2) (x0.length - 0) [] ⟨0, ⟨hk.1, rfl⟩, rfl, h⟩ ?_
   rintro _ _ ⟨o2_0, ⟨hi, rfl⟩, rfl, h⟩
   refine ww ?_
   refine condS (fun c3 => ?_) (fun c3 => ?_)
   ·obtain ⟨xo2, hxo2, hd⟩ := countY (show (o2_0 : Int) < (x0.length : Int) from c3)
    rw [hd, F40_l2] at h
    refine ww ?_
    refine t_idxF (enc := eS) (xs := x0) rfl rfl hxo2 rfl ?_
    refine ww ?_
    obtain ⟨y4, hy4, h⟩ := bi h
    refine t_idxF (enc := eS) (xs := x1) rfl rfl hy4 rfl ?_
    refine ww ?_
    refine condSh h (fun c5 h => ?_) (fun c5 h => ?_)
    ·refine ww ?_
     obtain ⟨fh0o2, hfh0o2, rfl⟩ := Option.map_eq_some_iff.1 h
     have h := hfh0o2.trans h0o2
     cases h
     exact eF []
    ·refine ww ?_
     rw [wrapN (by omega)]
     exact eL' (x0.length - (o2_0 + 1)) [] ⟨o2_0 + 1, ⟨by omega, rfl⟩, rfl, h⟩ (by omega)
   ·rw [countN (show ¬ ((o2_0 : Int) < (x0.length : Int)) from c3), F40_l2] at h
    refine ww ?_
    cases h
    exact eM [] ⟨_, rfl, rfl⟩
  ·rintro _ ⟨po2, rfl, rfl⟩
   clear ho
   dsimp only at h
   refine ww ?_
   cases h
   exact eF []

/- orchestrator/meta.Equal$1 -/
def F41 (x0 : Manager) (x1 : Manager) : Option (Bool) := (((if x0.Name = x1.Name then (F40 x0.Fields x1.Fields).bind fun t3 => some t3 else some false)).bind fun o1 => some o1)
def a41 : AFn := ⟨17, [(.tmp 4)],
 (.seq (.reg [sq 2 (.box (.t 0)),
sq 3 (.box (.t 1)),
sq 4 (.mv (kB false))])
 (.seq (.sem (.reg [sq 5 (.fieldA 0 (.t 2)),
sq 6 (.load none (.t 5)),
sq 7 (.fieldA 0 (.t 3)),
sq 8 (.load none (.t 7)),
sq 9 (.bin .eql (.t 6) (.t 8)),
sq 10 (.mv (.t 9)),
⟨(some 11), (some (10, true)), .fieldA 1 (.t 2), [], (.new [])⟩,
⟨(some 12), (some (10, true)), .load none (.t 11), [], (.new [])⟩,
⟨(some 13), (some (10, true)), .fieldA 1 (.t 3), [], (.new [])⟩,
⟨(some 14), (some (10, true)), .load none (.t 13), [], (.new [])⟩,
⟨(some 15), (some (10, true)), .call 40 [(.t 12), (.t 14)], [], (.new [])⟩,
sq 16 (.pick (.t 10) (.t 15) (kB false)),
sq 4 (.mv (.t 16))]))
 .ret))⟩
theorem a41_ok : afn Try.prog 41 = some a41.er := by kernel_rfl
theorem F41_ok {x0 : Manager} {x1 : Manager} {r : Bool} (h : F41 x0 x1 = some r) : CallD Try.prog 41 [.agg [dS x0.Name, dM (x0.Fields.map eS)], .agg [dS x1.Name, dM (x1.Fields.map eS)]] [] (tupV [.c (dB r)]) [] := by
 refine callS a41_ok (by simp [a41]) ?_
 rw [F41] at h
 simp only [a41, VW.down, Nat.reduceEqDiff, reduceCtorEq, Nat.reduceAdd, Nat.reduceLeDiff, Nat.reduceLT, Nat.reduceBEq, Nat.reduceSub, EE.down]
 obtain ⟨o1, ho, h⟩ := bi h
 refine cutS (fun s => s = ⟨[(4, .one (.c (dB o1)))], []⟩) ?_ ?_
 ·have h := ho
  clear ho
  refine ww ?_
  refine guardSh h (fun g2 h => ?_) (fun g2 h => ?_)
  ·refine ww ?_
   obtain ⟨t3, ht3, h⟩ := bi h
   refine cN [] (F40_ok ht3) trivial ?_
   refine ww ?_
   cases h
   exact eM [] rfl
  ·refine ww ?_
   cases h
   exact eM [] rfl
 ·rintro _ rfl
  clear ho
  refine ww ?_
  cases h
  exact eF []

/- slices.EqualFunc[[]orchestrator/api.Manager,[]orchestrator/api.Manager,orchestrator/api.Manager,orchestrator/api.Manager] -/
def F42_l2 (x1 : (List Manager)) : List Manager → Nat → Option ((Bool) ⊕ (Unit))
  | [], o2_0 => some (Sum.inr (()))
  | xo2 :: xs, o2_0 => (rdI x1 ((o2_0 : Int))).bind fun y4 => (F41 xo2 y4).bind fun t5 => (if (nb t5) = true then (some false).map Sum.inl else F42_l2 x1 xs (o2_0 + 1))
def F42 (x0 : (List Manager)) (x1 : (List Manager)) : Option (Bool) := (if ¬ ((x0.length : Int) = (x1.length : Int)) then some false else (((ck (0 ≤ x0.length ∧ x0.length ≤ 4294967290)).bind fun u7 => F42_l2 x1 x0 0 : Option ((Bool) ⊕ (Unit))).bind fun o2 => match o2 with | Sum.inl f => some f | Sum.inr po2 => some true))
def a42 : AFn := ⟨32, [(.tmp 6)],
 (.seq (.reg [sq 6 (.mv (kB false))])
 (.seq (.seq (.reg [sq 10 (.mv (.t 0)),
sq 11 (.len (.t 10)),
sq 12 (.mv (.t 1)),
sq 13 (.len (.t 12)),
sq 14 (.bin .neq (.t 11) (.t 13))])
 (.cond (.t 14)
 (.seq (.reg [sq 6 (.mv (kB false))])
 .ret)
 .skip))
 (.seq (.seq (.reg [sq 15 (.mv (.t 0)),
sq 16 (.len (.t 15)),
sq 17 (.mv (kI 0))])
 (.sem (.block 0 (.loop (.seq (.reg [sq 18 (.bin .lss (.t 17) (.t 16))])
 (.seq (.cond (.t 18)
 .skip
 (.exit 0))
 (.seq (.block 1 (.seq (.reg [sq 19 (.mv (.t 17)),
sq 20 (.indexA 2 (.t 15) (.t 17)),
sq 21 (.load (some 2) (.t 20)),
sq 8 (.zbox [dS ⟨#[]⟩, dN]),
sq 7 (.mv (.t 19)),
su (.store 2 (.t 8) (.t 21))])
 (.seq (.reg [sq 22 (.mv (.t 1)),
sq 23 (.mv (.t 7)),
sq 24 (.indexA 2 (.t 22) (.t 23)),
sq 25 (.load (some 2) (.t 24)),
sq 9 (.zbox [dS ⟨#[]⟩, dN]),
su (.store 2 (.t 9) (.t 25))])
 (.seq (.reg [sq 26 (.mv (.t 2)),
sq 27 (.load (some 2) (.t 8)),
sq 28 (.load (some 2) (.t 9)),
sq 29 (.callv (.t 26) [(.t 27), (.t 28)]),
sq 30 (.not (.t 29))])
 (.cond (.t 30)
 (.seq (.reg [sq 6 (.mv (kB false))])
 .ret)
 .skip)))))
 (.reg [sq 31 (.bin .add (.t 17) (kI 1)),
sq 17 (.mv (.t 31))]))))))))
 (.seq (.reg [sq 6 (.mv (kB true))])
 .ret))))⟩
theorem a42_ok : afn Try.prog 42 = some a42.er := by kernel_rfl
theorem F42_ok {x0 : (List Manager)} {x1 : (List Manager)} {r : Bool} (h : F42 x0 x1 = some r) : CallD Try.prog 42 [.c (dM (x0.map eManager)), .c (dM (x1.map eManager)), .c (.fn 41 [])] [] (tupV [.c (dB r)]) [] := by
 refine callS a42_ok (by simp [a42]) ?_
 rw [F42] at h
 simp only [a42, VW.down, Nat.reduceEqDiff, reduceCtorEq, Nat.reduceAdd, Nat.reduceLeDiff, Nat.reduceLT, Nat.reduceBEq, Nat.reduceSub, EE.down]
 refine condSh h (fun c1 h => ?_) (fun c1 h => ?_)
 ·refine ww ?_
  cases h
  exact eF []
 ·refine ww ?_
  obtain ⟨o2, ho, h⟩ := bi h
  refine cutS (fun s => ∃ po2, o2 = Sum.inr po2 ∧ s = ⟨[], []⟩) ?_ ?_
  ·have h0o2 := h
   have h := ho
   clear ho
   obtain ⟨_, hk, h⟩ := bi h
   have hk := ck_some hk
   refine ww ?_
   refine bL (fun j s => ∃ (o2_0 : Nat), (o2_0 ≤ x0.length ∧ j = x0.length - o2_0) ∧ s = ⟨[(1, .one (.c (dM (x1.map eManager)))), (2, .one (.c (.fn 41 []))), (15, .one (.c (dM (x0.map eManager)))), (16, .one (.c (dI ((x0.length : Int))))), (17, .one (.c (dI ((o2_0 : Int)))))], []⟩ ∧ F42_l2 x1 (x0.drop o2_0) o2_0 = some o2) (x0.length - 0) [] ⟨0, ⟨hk.1, rfl⟩, rfl, h⟩ ?_
   rintro _ _ ⟨o2_0, ⟨hi, rfl⟩, rfl, h⟩
   refine ww ?_
   refine condS (fun c3 => ?_) (fun c3 => ?_)
   ·obtain ⟨xo2, hxo2, hd⟩ := countY (show (o2_0 : Int) < (x0.length : Int) from c3)
    rw [hd, F42_l2] at h
    refine ww ?_
    refine t_idxF (enc := eManager) (xs := x0) rfl rfl hxo2 rfl ?_
    refine ww ?_
    obtain ⟨y4, hy4, h⟩ := bi h
    refine t_idxF (enc := eManager) (xs := x1) rfl rfl hy4 rfl ?_
    refine ww ?_
    obtain ⟨t5, ht5, h⟩ := bi h
    refine cN [] (F41_ok ht5) trivial ?_
    refine ww ?_
    refine condBh h (fun c6 h => ?_) (fun c6 h => ?_)
    ·refine ww ?_
     obtain ⟨fh0o2, hfh0o2, rfl⟩ := Option.map_eq_some_iff.1 h
     have h := hfh0o2.trans h0o2
     cases h
     exact eF []
    ·refine ww ?_
     rw [wrapN (by omega)]
     exact eL' (x0.length - (o2_0 + 1)) [] ⟨o2_0 + 1, ⟨by omega, rfl⟩, rfl, h⟩ (by omega)
   ·rw [countN (show ¬ ((o2_0 : Int) < (x0.length : Int)) from c3), F42_l2] at h
    refine ww ?_
    cases h
    exact eM [] ⟨_, rfl, rfl⟩
  ·rintro _ ⟨po2, rfl, rfl⟩
   clear ho
   dsimp only at h
   refine ww ?_
   cases h
   exact eF []

/- orchestrator/meta.Equal -/
def F13 (x0 : Object) (x1 : Object) : Option (Bool) := (((F37 x0.Meta).bind fun t2 => (F37 x1.Meta).bind fun t3 => (if ¬ (x0.Meta.Kind = x1.Meta.Kind ∧ x0.Meta.Namespace = x1.Meta.Namespace ∧ x0.Meta.Name = x1.Meta.Name) then some true else (if ¬ (x0.Meta.Uid = x1.Meta.Uid) then some true else (if ¬ (x0.Meta.Version = x1.Meta.Version) then some true else (if ¬ (x0.Meta.Generation = x1.Meta.Generation) then some true else (if ¬ (x0.Meta.Created = x1.Meta.Created) then some true else (if (((x0.Meta.Deleting == x1.Meta.Deleting) != true)) = true then some true else some (decide (¬ (x0.Meta.DeleteAt = x1.Meta.DeleteAt)))))))))).bind fun o1 => (if o1 = true then some false else (((F38 x0.Meta.Labels x1.Meta.Labels).bind fun t12 => (if (nb t12) = true then some true else (F39 x0.Meta.Owners x1.Meta.Owners).bind fun t14 => (if (nb t14) = true then some true else (F40 x0.Meta.Finalizers x1.Meta.Finalizers).bind fun t16 => some (nb t16)))).bind fun o11 => (if o11 = true then some false else (((F42 x0.Meta.Managers x1.Meta.Managers).bind fun t19 => (if t19 = true then (F35 x0.Spec x1.Spec).bind fun t21 => (if t21 = true then (F35 x0.Status x1.Status).bind fun t23 => some t23 else some false) else some false)).bind fun o18 => some o18)))))
def a13 : AFn := ⟨101, [(.tmp 4)],
 (.seq (.reg [sq 2 (.box (.t 0)),
sq 3 (.box (.t 1)),
sq 4 (.mv (kB false))])
 (.seq (.regd [sq 8 (.fieldA 0 (.t 2)),
sd 9 (.load (some 13) (.t 8)) [0],
sq 10 (.fieldA 0 (.t 3)),
sd 11 (.load (some 13) (.t 10)) [2],
sq 5 (.zbox [dS ⟨#[]⟩, dS ⟨#[]⟩, dS ⟨#[]⟩, dI 0, dI 0, dI 0, dI 0, dB false, dI 0, dN, dN, dN, dN]),
sq 6 (.zbox [dS ⟨#[]⟩, dS ⟨#[]⟩, dS ⟨#[]⟩, dI 0, dI 0, dI 0, dI 0, dB false, dI 0, dN, dN, dN, dN]),
⟨none, none, .store 13 (.t 5) (.t 9), [0, 1, 4, 5], (.lone [3, 10])⟩,
⟨none, none, .store 13 (.t 6) (.t 11), [0, 1, 2, 3, 4, 5, 6], (.lone [])⟩])
 (.seq (.seq (.sem (.regd [sq 12 (.load (some 13) (.t 5)),
⟨(some 13), none, .call 37 [(.t 12)], [0], (.new [0])⟩,
sq 14 (.load (some 13) (.t 6)),
⟨(some 15), none, .call 37 [(.t 14)], [0, 1, 2], (.lone [])⟩,
⟨(some 16), none, .eqs true [(0, 2), (1, 2), (2, 2)] (.t 13) (.t 15), [0, 1, 2, 3], (.lone [])⟩,
sd 17 (.mv (.t 16)) [0, 1, 2, 3, 4],
⟨(some 18), (some (17, false)), .fieldA 3 (.t 5), [0, 1, 2, 3, 4, 5], (.new [])⟩,
⟨(some 19), (some (17, false)), .load none (.t 18), [0, 1, 2, 3, 4, 5, 6], (.new [])⟩,
⟨(some 20), (some (17, false)), .fieldA 3 (.t 6), [0, 1, 2, 3, 4, 5], (.new [])⟩,
⟨(some 21), (some (17, false)), .load none (.t 20), [0, 1, 2, 3, 4, 5, 8], (.new [])⟩,
⟨(some 22), (some (17, false)), .bin .neq (.t 19) (.t 21), [0, 1, 2, 3, 4, 5, 6, 7, 8, 9], (.new [])⟩,
⟨(some 23), none, .pick (.t 17) (kB true) (.t 22), [0, 1, 2, 3, 4, 5, 6, 7, 8, 9, 10], (.lone [])⟩,
sd 24 (.mv (.t 23)) [0, 1, 2, 3, 4, 5, 6, 7, 8, 9, 10, 11],
⟨(some 25), (some (24, false)), .fieldA 4 (.t 5), [0, 1, 2, 3, 4, 5, 6, 7, 8, 9, 10, 11, 12], (.new [])⟩,
⟨(some 26), (some (24, false)), .load none (.t 25), [0, 1, 2, 3, 4, 5, 6, 7, 8, 9, 10, 11, 12, 13], (.new [])⟩,
⟨(some 27), (some (24, false)), .fieldA 4 (.t 6), [0, 1, 2, 3, 4, 5, 6, 7, 8, 9, 10, 11, 12], (.new [])⟩,
⟨(some 28), (some (24, false)), .load none (.t 27), [0, 1, 2, 3, 4, 5, 6, 7, 8, 9, 10, 11, 12, 15], (.new [])⟩,
⟨(some 29), (some (24, false)), .bin .neq (.t 26) (.t 28), [0, 1, 2, 3, 4, 5, 6, 7, 8, 9, 10, 11, 12, 13, 14, 15, 16], (.new [])⟩,
⟨(some 30), none, .pick (.t 24) (kB true) (.t 29), [0, 1, 2, 3, 4, 5, 6, 7, 8, 9, 10, 11, 12, 13, 14, 15, 16, 17], (.lone [])⟩,
sd 31 (.mv (.t 30)) [0, 1, 2, 3, 4, 5, 6, 7, 8, 9, 10, 11, 12, 13, 14, 15, 16, 17, 18],
⟨(some 32), (some (31, false)), .fieldA 5 (.t 5), [0, 1, 2, 3, 4, 5, 6, 7, 8, 9, 10, 11, 12, 13, 14, 15, 16, 17, 18, 19], (.new [])⟩,
⟨(some 33), (some (31, false)), .load none (.t 32), [0, 1, 2, 3, 4, 5, 6, 7, 8, 9, 10, 11, 12, 13, 14, 15, 16, 17, 18, 19, 20], (.new [])⟩,
⟨(some 34), (some (31, false)), .fieldA 5 (.t 6), [0, 1, 2, 3, 4, 5, 6, 7, 8, 9, 10, 11, 12, 13, 14, 15, 16, 17, 18, 19], (.new [])⟩,
⟨(some 35), (some (31, false)), .load none (.t 34), [0, 1, 2, 3, 4, 5, 6, 7, 8, 9, 10, 11, 12, 13, 14, 15, 16, 17, 18, 19, 22], (.new [])⟩,
⟨(some 36), (some (31, false)), .bin .neq (.t 33) (.t 35), [0, 1, 2, 3, 4, 5, 6, 7, 8, 9, 10, 11, 12, 13, 14, 15, 16, 17, 18, 19, 20, 21, 22, 23], (.new [])⟩,
⟨(some 37), none, .pick (.t 31) (kB true) (.t 36), [0, 1, 2, 3, 4, 5, 6, 7, 8, 9, 10, 11, 12, 13, 14, 15, 16, 17, 18, 19, 20, 21, 22, 23, 24], (.lone [])⟩,
sd 38 (.mv (.t 37)) [0, 1, 2, 3, 4, 5, 6, 7, 8, 9, 10, 11, 12, 13, 14, 15, 16, 17, 18, 19, 20, 21, 22, 23, 24, 25],
⟨(some 39), (some (38, false)), .fieldA 6 (.t 5), [0, 1, 2, 3, 4, 5, 6, 7, 8, 9, 10, 11, 12, 13, 14, 15, 16, 17, 18, 19, 20, 21, 22, 23, 24, 25, 26], (.new [])⟩,
⟨(some 40), (some (38, false)), .load none (.t 39), [0, 1, 2, 3, 4, 5, 6, 7, 8, 9, 10, 11, 12, 13, 14, 15, 16, 17, 18, 19, 20, 21, 22, 23, 24, 25, 26, 27], (.new [])⟩,
⟨(some 41), (some (38, false)), .fieldA 6 (.t 6), [0, 1, 2, 3, 4, 5, 6, 7, 8, 9, 10, 11, 12, 13, 14, 15, 16, 17, 18, 19, 20, 21, 22, 23, 24, 25, 26], (.new [])⟩,
⟨(some 42), (some (38, false)), .load none (.t 41), [0, 1, 2, 3, 4, 5, 6, 7, 8, 9, 10, 11, 12, 13, 14, 15, 16, 17, 18, 19, 20, 21, 22, 23, 24, 25, 26, 29], (.new [])⟩,
⟨(some 43), (some (38, false)), .bin .neq (.t 40) (.t 42), [0, 1, 2, 3, 4, 5, 6, 7, 8, 9, 10, 11, 12, 13, 14, 15, 16, 17, 18, 19, 20, 21, 22, 23, 24, 25, 26, 27, 28, 29, 30], (.new [])⟩,
⟨(some 44), none, .pick (.t 38) (kB true) (.t 43), [0, 1, 2, 3, 4, 5, 6, 7, 8, 9, 10, 11, 12, 13, 14, 15, 16, 17, 18, 19, 20, 21, 22, 23, 24, 25, 26, 27, 28, 29, 30, 31], (.lone [])⟩,
sd 45 (.mv (.t 44)) [0, 1, 2, 3, 4, 5, 6, 7, 8, 9, 10, 11, 12, 13, 14, 15, 16, 17, 18, 19, 20, 21, 22, 23, 24, 25, 26, 27, 28, 29, 30, 31, 32],
⟨(some 46), (some (45, false)), .fieldA 7 (.t 5), [0, 1, 2, 3, 4, 5, 6, 7, 8, 9, 10, 11, 12, 13, 14, 15, 16, 17, 18, 19, 20, 21, 22, 23, 24, 25, 26, 27, 28, 29, 30, 31, 32, 33], (.new [])⟩,
⟨(some 47), (some (45, false)), .load none (.t 46), [0, 1, 2, 3, 4, 5, 6, 7, 8, 9, 10, 11, 12, 13, 14, 15, 16, 17, 18, 19, 20, 21, 22, 23, 24, 25, 26, 27, 28, 29, 30, 31, 32, 33, 34], (.new [])⟩,
⟨(some 48), (some (45, false)), .fieldA 7 (.t 6), [0, 1, 2, 3, 4, 5, 6, 7, 8, 9, 10, 11, 12, 13, 14, 15, 16, 17, 18, 19, 20, 21, 22, 23, 24, 25, 26, 27, 28, 29, 30, 31, 32, 33], (.new [])⟩,
⟨(some 49), (some (45, false)), .load none (.t 48), [0, 1, 2, 3, 4, 5, 6, 7, 8, 9, 10, 11, 12, 13, 14, 15, 16, 17, 18, 19, 20, 21, 22, 23, 24, 25, 26, 27, 28, 29, 30, 31, 32, 33, 36], (.new [])⟩,
⟨(some 50), (some (45, false)), .beq true (.t 47) (.t 49), [0, 1, 2, 3, 4, 5, 6, 7, 8, 9, 10, 11, 12, 13, 14, 15, 16, 17, 18, 19, 20, 21, 22, 23, 24, 25, 26, 27, 28, 29, 30, 31, 32, 33, 34, 35, 36, 37], (.new [])⟩,
⟨(some 51), none, .pick (.t 45) (kB true) (.t 50), [0, 1, 2, 3, 4, 5, 6, 7, 8, 9, 10, 11, 12, 13, 14, 15, 16, 17, 18, 19, 20, 21, 22, 23, 24, 25, 26, 27, 28, 29, 30, 31, 32, 33, 34, 35, 36, 37, 38], (.lone [])⟩,
sd 52 (.mv (.t 51)) [0, 1, 2, 3, 4, 5, 6, 7, 8, 9, 10, 11, 12, 13, 14, 15, 16, 17, 18, 19, 20, 21, 22, 23, 24, 25, 26, 27, 28, 29, 30, 31, 32, 33, 34, 35, 36, 37, 38, 39],
⟨(some 53), (some (52, false)), .fieldA 8 (.t 5), [0, 1, 2, 3, 4, 5, 6, 7, 8, 9, 10, 11, 12, 13, 14, 15, 16, 17, 18, 19, 20, 21, 22, 23, 24, 25, 26, 27, 28, 29, 30, 31, 32, 33, 34, 35, 36, 37, 38, 39, 40], (.new [])⟩,
⟨(some 54), (some (52, false)), .load none (.t 53), [0, 1, 2, 3, 4, 5, 6, 7, 8, 9, 10, 11, 12, 13, 14, 15, 16, 17, 18, 19, 20, 21, 22, 23, 24, 25, 26, 27, 28, 29, 30, 31, 32, 33, 34, 35, 36, 37, 38, 39, 40, 41], (.new [])⟩,
⟨(some 55), (some (52, false)), .fieldA 8 (.t 6), [0, 1, 2, 3, 4, 5, 6, 7, 8, 9, 10, 11, 12, 13, 14, 15, 16, 17, 18, 19, 20, 21, 22, 23, 24, 25, 26, 27, 28, 29, 30, 31, 32, 33, 34, 35, 36, 37, 38, 39, 40], (.new [])⟩,
⟨(some 56), (some (52, false)), .load none (.t 55), [0, 1, 2, 3, 4, 5, 6, 7, 8, 9, 10, 11, 12, 13, 14, 15, 16, 17, 18, 19, 20, 21, 22, 23, 24, 25, 26, 27, 28, 29, 30, 31, 32, 33, 34, 35, 36, 37, 38, 39, 40, 43], (.new [])⟩,
⟨(some 57), (some (52, false)), .bin .neq (.t 54) (.t 56), [0, 1, 2, 3, 4, 5, 6, 7, 8, 9, 10, 11, 12, 13, 14, 15, 16, 17, 18, 19, 20, 21, 22, 23, 24, 25, 26, 27, 28, 29, 30, 31, 32, 33, 34, 35, 36, 37, 38, 39, 40, 41, 42, 43, 44], (.new [])⟩,
⟨(some 58), none, .pick (.t 52) (kB true) (.t 57), [0, 1, 2, 3, 4, 5, 6, 7, 8, 9, 10, 11, 12, 13, 14, 15, 16, 17, 18, 19, 20, 21, 22, 23, 24, 25, 26, 27, 28, 29, 30, 31, 32, 33, 34, 35, 36, 37, 38, 39, 40, 41, 42, 43, 44, 45], (.lone [])⟩]))
 (.cond (.t 58)
 (.seq (.reg [sq 4 (.mv (kB false))])
 .ret)
 .skip))
 (.seq (.seq (.sem (.reg [sq 59 (.fieldA 9 (.t 5)),
sq 60 (.load none (.t 59)),
sq 61 (.fieldA 9 (.t 6)),
sq 62 (.load none (.t 61)),
sq 63 (.call 38 [(.t 60), (.t 62)]),
sq 64 (.not (.t 63)),
sq 65 (.mv (.t 64)),
⟨(some 66), (some (65, false)), .fieldA 10 (.t 5), [], (.new [])⟩,
⟨(some 67), (some (65, false)), .load none (.t 66), [], (.new [])⟩,
⟨(some 68), (some (65, false)), .fieldA 10 (.t 6), [], (.new [])⟩,
⟨(some 69), (some (65, false)), .load none (.t 68), [], (.new [])⟩,
⟨(some 70), (some (65, false)), .call 39 [(.t 67), (.t 69)], [], (.new [])⟩,
⟨(some 71), (some (65, false)), .not (.t 70), [], (.new [])⟩,
sq 72 (.pick (.t 65) (kB true) (.t 71)),
sq 73 (.mv (.t 72)),
⟨(some 74), (some (73, false)), .fieldA 11 (.t 5), [], (.new [])⟩,
⟨(some 75), (some (73, false)), .load none (.t 74), [], (.new [])⟩,
⟨(some 76), (some (73, false)), .fieldA 11 (.t 6), [], (.new [])⟩,
⟨(some 77), (some (73, false)), .load none (.t 76), [], (.new [])⟩,
⟨(some 78), (some (73, false)), .call 40 [(.t 75), (.t 77)], [], (.new [])⟩,
⟨(some 79), (some (73, false)), .not (.t 78), [], (.new [])⟩,
sq 80 (.pick (.t 73) (kB true) (.t 79))]))
 (.cond (.t 80)
 (.seq (.reg [sq 4 (.mv (kB false))])
 .ret)
 .skip))
 (.seq (.reg [⟨(some 7), none, .mv (.f 41), [], (.lone [])⟩])
 (.seq (.sem (.reg [sq 81 (.fieldA 12 (.t 5)),
sq 82 (.load none (.t 81)),
sq 83 (.fieldA 12 (.t 6)),
sq 84 (.load none (.t 83)),
sq 85 (.mv (.t 7)),
sq 86 (.call 42 [(.t 82), (.t 84), (.t 85)]),
sq 87 (.mv (.t 86)),
⟨(some 88), (some (87, true)), .fieldA 13 (.t 2), [], (.new [])⟩,
⟨(some 89), (some (87, true)), .load (some 5) (.t 88), [], (.new [])⟩,
⟨(some 90), (some (87, true)), .fieldA 13 (.t 3), [], (.new [])⟩,
⟨(some 91), (some (87, true)), .load (some 5) (.t 90), [], (.new [])⟩,
⟨(some 92), (some (87, true)), .call 35 [(.t 89), (.t 91)], [], (.new [])⟩,
sq 93 (.pick (.t 87) (.t 92) (kB false)),
sq 94 (.mv (.t 93)),
⟨(some 95), (some (94, true)), .fieldA 18 (.t 2), [], (.new [])⟩,
⟨(some 96), (some (94, true)), .load (some 5) (.t 95), [], (.new [])⟩,
⟨(some 97), (some (94, true)), .fieldA 18 (.t 3), [], (.new [])⟩,
⟨(some 98), (some (94, true)), .load (some 5) (.t 97), [], (.new [])⟩,
⟨(some 99), (some (94, true)), .call 35 [(.t 96), (.t 98)], [], (.new [])⟩,
sq 100 (.pick (.t 94) (.t 99) (kB false)),
sq 4 (.mv (.t 100))]))
 .ret))))))⟩
theorem a13_ok : afn Try.prog 13 = some a13.er := by kernel_rfl
theorem F13_ok {x0 : Object} {x1 : Object} {r : Bool} (h : F13 x0 x1 = some r) : CallD Try.prog 13 [.agg [dS x0.Meta.Kind, dS x0.Meta.Namespace, dS x0.Meta.Name, dI x0.Meta.Uid, dI x0.Meta.Version, dI x0.Meta.Generation, dI x0.Meta.Created, dB x0.Meta.Deleting, dI x0.Meta.DeleteAt, dM (x0.Meta.Labels.map eLabel), dM (x0.Meta.Owners.map eOwner), dM (x0.Meta.Finalizers.map eS), dM (x0.Meta.Managers.map eManager), dI x0.Spec.Kind, dI x0.Spec.N, dS x0.Spec.S, dM (x0.Spec.List_.map eTValue), dM (x0.Spec.Fields.map eTField), dI x0.Status.Kind, dI x0.Status.N, dS x0.Status.S, dM (x0.Status.List_.map eTValue), dM (x0.Status.Fields.map eTField)], .agg [dS x1.Meta.Kind, dS x1.Meta.Namespace, dS x1.Meta.Name, dI x1.Meta.Uid, dI x1.Meta.Version, dI x1.Meta.Generation, dI x1.Meta.Created, dB x1.Meta.Deleting, dI x1.Meta.DeleteAt, dM (x1.Meta.Labels.map eLabel), dM (x1.Meta.Owners.map eOwner), dM (x1.Meta.Finalizers.map eS), dM (x1.Meta.Managers.map eManager), dI x1.Spec.Kind, dI x1.Spec.N, dS x1.Spec.S, dM (x1.Spec.List_.map eTValue), dM (x1.Spec.Fields.map eTField), dI x1.Status.Kind, dI x1.Status.N, dS x1.Status.S, dM (x1.Status.List_.map eTValue), dM (x1.Status.Fields.map eTField)]] [] (tupV [.c (dB r)]) [] := by
 refine callS a13_ok (by simp [a13]) ?_
 rw [F13] at h
 simp only [a13, VW.down, Nat.reduceEqDiff, reduceCtorEq, Nat.reduceAdd, Nat.reduceLeDiff, Nat.reduceLT, Nat.reduceBEq, Nat.reduceSub, EE.down]
 refine kD_new (by simp [wrs, allW, hset]) ?_
 refine ww ?_
 refine kD_new (by simp [wrs, allW, hset]) ?_
 refine ww ?_
 obtain ⟨o1, ho, h⟩ := bi h
 refine cutS (fun s => s = ⟨[(2, .one (.c (.pt 0 0))), (3, .one (.c (.pt 1 0))), (5, .one (.c (.pt 2 0))), (6, .one (.c (.pt 3 0))), (58, .one (.c (dB o1)))], [some (.box [dS x0.Meta.Kind, dS x0.Meta.Namespace, dS x0.Meta.Name, dI x0.Meta.Uid, dI x0.Meta.Version, dI x0.Meta.Generation, dI x0.Meta.Created, dB x0.Meta.Deleting, dI x0.Meta.DeleteAt, dM (x0.Meta.Labels.map eLabel), dM (x0.Meta.Owners.map eOwner), dM (x0.Meta.Finalizers.map eS), dM (x0.Meta.Managers.map eManager), dI x0.Spec.Kind, dI x0.Spec.N, dS x0.Spec.S, dM (x0.Spec.List_.map eTValue), dM (x0.Spec.Fields.map eTField), dI x0.Status.Kind, dI x0.Status.N, dS x0.Status.S, dM (x0.Status.List_.map eTValue), dM (x0.Status.Fields.map eTField)]), some (.box [dS x1.Meta.Kind, dS x1.Meta.Namespace, dS x1.Meta.Name, dI x1.Meta.Uid, dI x1.Meta.Version, dI x1.Meta.Generation, dI x1.Meta.Created, dB x1.Meta.Deleting, dI x1.Meta.DeleteAt, dM (x1.Meta.Labels.map eLabel), dM (x1.Meta.Owners.map eOwner), dM (x1.Meta.Finalizers.map eS), dM (x1.Meta.Managers.map eManager), dI x1.Spec.Kind, dI x1.Spec.N, dS x1.Spec.S, dM (x1.Spec.List_.map eTValue), dM (x1.Spec.Fields.map eTField), dI x1.Status.Kind, dI x1.Status.N, dS x1.Status.S, dM (x1.Status.List_.map eTValue), dM (x1.Status.Fields.map eTField)]), some (.box [dS x0.Meta.Kind, dS x0.Meta.Namespace, dS x0.Meta.Name, dI x0.Meta.Uid, dI x0.Meta.Version, dI x0.Meta.Generation, dI x0.Meta.Created, dB x0.Meta.Deleting, dI x0.Meta.DeleteAt, dM (x0.Meta.Labels.map eLabel), dM (x0.Meta.Owners.map eOwner), dM (x0.Meta.Finalizers.map eS), dM (x0.Meta.Managers.map eManager)]), some (.box [dS x1.Meta.Kind, dS x1.Meta.Namespace, dS x1.Meta.Name, dI x1.Meta.Uid, dI x1.Meta.Version, dI x1.Meta.Generation, dI x1.Meta.Created, dB x1.Meta.Deleting, dI x1.Meta.DeleteAt, dM (x1.Meta.Labels.map eLabel), dM (x1.Meta.Owners.map eOwner), dM (x1.Meta.Finalizers.map eS), dM (x1.Meta.Managers.map eManager)])]⟩) ?_ ?_
 ·have h := ho
  clear ho
  refine ww ?_
  obtain ⟨t2, ht2, h⟩ := bi h
  refine cN [] (F37_ok ht2) trivial ?_
  refine ww ?_
  obtain ⟨t3, ht3, h⟩ := bi h
  refine cN [] (F37_ok ht3) trivial ?_
  refine ww ?_
  refine guardDh h (fun g4 h => ?_) (fun g4 h => ?_)
  ·refine ww ?_
   cases h
   exact eM [some 0, some 1, some 2, some 3] rfl
  ·refine ww ?_
   refine guardDh h (fun g5 h => ?_) (fun g5 h => ?_)
   ·refine ww ?_
    cases h
    exact eM [some 0, some 1, some 2, some 3] rfl
   ·refine ww ?_
    refine guardDh h (fun g6 h => ?_) (fun g6 h => ?_)
    ·refine ww ?_
     cases h
     exact eM [some 0, some 1, some 2, some 3] rfl
    ·refine ww ?_
     refine guardDh h (fun g7 h => ?_) (fun g7 h => ?_)
     ·refine ww ?_
      cases h
      exact eM [some 0, some 1, some 2, some 3] rfl
     ·refine ww ?_
      refine guardDh h (fun g8 h => ?_) (fun g8 h => ?_)
      ·refine ww ?_
       cases h
       exact eM [some 0, some 1, some 2, some 3] rfl
      ·refine ww ?_
       refine guardDBh h (fun g9 h => ?_) (fun g9 h => ?_)
       ·refine ww ?_
        cases h
        exact eM [some 0, some 1, some 2, some 3] rfl
       ·refine ww ?_
        cases h
        exact eM [some 0, some 1, some 2, some 3] rfl
 ·rintro _ rfl
  clear ho
  refine ww ?_
  refine condBh h (fun c10 h => ?_) (fun c10 h => ?_)
  ·refine ww ?_
   cases h
   exact eF []
  ·refine ww ?_
   obtain ⟨o11, ho, h⟩ := bi h
   refine cutS (fun s => s = ⟨[(2, .one (.c (.pt 0 0))), (3, .one (.c (.pt 1 0))), (5, .one (.c (.pt 2 0))), (6, .one (.c (.pt 3 0))), (80, .one (.c (dB o11)))], [some (.box [dS x0.Meta.Kind, dS x0.Meta.Namespace, dS x0.Meta.Name, dI x0.Meta.Uid, dI x0.Meta.Version, dI x0.Meta.Generation, dI x0.Meta.Created, dB x0.Meta.Deleting, dI x0.Meta.DeleteAt, dM (x0.Meta.Labels.map eLabel), dM (x0.Meta.Owners.map eOwner), dM (x0.Meta.Finalizers.map eS), dM (x0.Meta.Managers.map eManager), dI x0.Spec.Kind, dI x0.Spec.N, dS x0.Spec.S, dM (x0.Spec.List_.map eTValue), dM (x0.Spec.Fields.map eTField), dI x0.Status.Kind, dI x0.Status.N, dS x0.Status.S, dM (x0.Status.List_.map eTValue), dM (x0.Status.Fields.map eTField)]), some (.box [dS x1.Meta.Kind, dS x1.Meta.Namespace, dS x1.Meta.Name, dI x1.Meta.Uid, dI x1.Meta.Version, dI x1.Meta.Generation, dI x1.Meta.Created, dB x1.Meta.Deleting, dI x1.Meta.DeleteAt, dM (x1.Meta.Labels.map eLabel), dM (x1.Meta.Owners.map eOwner), dM (x1.Meta.Finalizers.map eS), dM (x1.Meta.Managers.map eManager), dI x1.Spec.Kind, dI x1.Spec.N, dS x1.Spec.S, dM (x1.Spec.List_.map eTValue), dM (x1.Spec.Fields.map eTField), dI x1.Status.Kind, dI x1.Status.N, dS x1.Status.S, dM (x1.Status.List_.map eTValue), dM (x1.Status.Fields.map eTField)]), some (.box [dS x0.Meta.Kind, dS x0.Meta.Namespace, dS x0.Meta.Name, dI x0.Meta.Uid, dI x0.Meta.Version, dI x0.Meta.Generation, dI x0.Meta.Created, dB x0.Meta.Deleting, dI x0.Meta.DeleteAt, dM (x0.Meta.Labels.map eLabel), dM (x0.Meta.Owners.map eOwner), dM (x0.Meta.Finalizers.map eS), dM (x0.Meta.Managers.map eManager)]), some (.box [dS x1.Meta.Kind, dS x1.Meta.Namespace, dS x1.Meta.Name, dI x1.Meta.Uid, dI x1.Meta.Version, dI x1.Meta.Generation, dI x1.Meta.Created, dB x1.Meta.Deleting, dI x1.Meta.DeleteAt, dM (x1.Meta.Labels.map eLabel), dM (x1.Meta.Owners.map eOwner), dM (x1.Meta.Finalizers.map eS), dM (x1.Meta.Managers.map eManager)])]⟩) ?_ ?_
   ·have h := ho
    clear ho
    refine ww ?_
    obtain ⟨t12, ht12, h⟩ := bi h
    refine cN [] (F38_ok ht12) trivial ?_
    refine ww ?_
    refine guardSBh h (fun g13 h => ?_) (fun g13 h => ?_)
    ·refine ww ?_
     cases h
     exact eM [some 0, some 1, some 2, some 3] rfl
    ·refine ww ?_
     obtain ⟨t14, ht14, h⟩ := bi h
     refine cN [] (F39_ok ht14) trivial ?_
     refine ww ?_
     refine guardSBh h (fun g15 h => ?_) (fun g15 h => ?_)
     ·refine ww ?_
      cases h
      exact eM [some 0, some 1, some 2, some 3] rfl
     ·refine ww ?_
      obtain ⟨t16, ht16, h⟩ := bi h
      refine cN [] (F40_ok ht16) trivial ?_
      refine ww ?_
      cases h
      exact eM [some 0, some 1, some 2, some 3] rfl
   ·rintro _ rfl
    clear ho
    refine ww ?_
    refine condBh h (fun c17 h => ?_) (fun c17 h => ?_)
    ·refine ww ?_
     cases h
     exact eF []
    ·refine ww ?_
     obtain ⟨o18, ho, h⟩ := bi h
     refine cutS (fun s => s = ⟨[(4, .one (.c (dB o18)))], []⟩) ?_ ?_
     ·have h := ho
      clear ho
      refine ww ?_
      obtain ⟨t19, ht19, h⟩ := bi h
      refine cN [] (F42_ok ht19) trivial ?_
      refine ww ?_
      refine guardSBh h (fun g20 h => ?_) (fun g20 h => ?_)
      ·refine ww ?_
       obtain ⟨t21, ht21, h⟩ := bi h
       refine cN [] (F35_ok ht21) trivial ?_
       refine ww ?_
       refine guardSBh h (fun g22 h => ?_) (fun g22 h => ?_)
       ·refine ww ?_
        obtain ⟨t23, ht23, h⟩ := bi h
        refine cN [] (F35_ok ht23) trivial ?_
        refine ww ?_
        cases h
        exact eM [] rfl
       ·refine ww ?_
        cases h
        exact eM [] rfl
      ·refine ww ?_
       cases h
       exact eM [] rfl
     ·rintro _ rfl
      clear ho
      refine ww ?_
      cases h
      exact eF []

/- orchestrator/store.Update -/
def F12 (x0 : TStore) (x1 : Object) : Option (Int × Int × (List Object) × (List Object) × (List Change) × ByteArray × ByteArray × ByteArray × Int × Int × Int × Int × Bool × Int × (List Label) × (List Owner) × (List ByteArray) × (List Manager) × Int × Int × ByteArray × ((List TValue)) × ((List TField)) × Int × Int × ByteArray × ((List TValue)) × ((List TField)) × Int) := (F31 x1).bind fun t1 => (if (nb t1) = true then (F32 x0).bind fun t3 => some ((x0.Rev, x0.Floor, t3.1, t3.2.1, t3.2.2, (⟨#[]⟩ : ByteArray), (⟨#[]⟩ : ByteArray), (⟨#[]⟩ : ByteArray), 0, 0, 0, 0, false, 0, [], [], [], [], 0, 0, (⟨#[]⟩ : ByteArray), [], [], 0, 0, (⟨#[]⟩ : ByteArray), [], [], 1)) else (F33 x1.Meta).bind fun t4 => (F21 x0 t4).bind fun t5 => (if (nb t5.2.2.2.2.2.2.2.2.2.2.2.2.2.2.2.2.2.2.2.2.2.2.2) = true then (F32 x0).bind fun t7 => some ((x0.Rev, x0.Floor, t7.1, t7.2.1, t7.2.2, (⟨#[]⟩ : ByteArray), (⟨#[]⟩ : ByteArray), (⟨#[]⟩ : ByteArray), 0, 0, 0, 0, false, 0, [], [], [], [], 0, 0, (⟨#[]⟩ : ByteArray), [], [], 0, 0, (⟨#[]⟩ : ByteArray), [], [], 7)) else (((if ¬ (x1.Meta.Version = 0) then (if ¬ (x1.Meta.Version = t5.2.2.2.2.1) then some true else (if ¬ (x1.Meta.Uid = 0) then some (decide (¬ (x1.Meta.Uid = t5.2.2.2.1))) else some false)) else (if ¬ (x1.Meta.Uid = 0) then some (decide (¬ (x1.Meta.Uid = t5.2.2.2.1))) else some false))).bind fun o8 => (if o8 = true then (F32 x0).bind fun t14 => some ((x0.Rev, x0.Floor, t14.1, t14.2.1, t14.2.2, (⟨#[]⟩ : ByteArray), (⟨#[]⟩ : ByteArray), (⟨#[]⟩ : ByteArray), 0, 0, 0, 0, false, 0, [], [], [], [], 0, 0, (⟨#[]⟩ : ByteArray), [], [], 0, 0, (⟨#[]⟩ : ByteArray), [], [], 9)) else (F34 x1).bind fun t15 => (((F35 ((⟨t15.2.2.2.2.1, t15.2.2.2.2.2.1, t15.2.2.2.2.2.2.1, t15.2.2.2.2.2.2.2.1, t15.2.2.2.2.2.2.2.2.1⟩ : TValue)) ((⟨t5.2.2.2.2.2.2.2.2.2.2.2.2.2.1, t5.2.2.2.2.2.2.2.2.2.2.2.2.2.2.1, t5.2.2.2.2.2.2.2.2.2.2.2.2.2.2.2.1, t5.2.2.2.2.2.2.2.2.2.2.2.2.2.2.2.2.1, t5.2.2.2.2.2.2.2.2.2.2.2.2.2.2.2.2.2.1⟩ : TValue))).bind fun t17 => (if (nb t17) = true then some ((IntKind.i64.wrap (t5.2.2.2.2.2.1 + 1))) else some t5.2.2.2.2.2.1)).bind fun o16 => (F13 ((⟨(⟨x1.Meta.Kind, x1.Meta.Namespace, x1.Meta.Name, t5.2.2.2.1, t5.2.2.2.2.1, o16, t5.2.2.2.2.2.2.1, x1.Meta.Deleting, x1.Meta.DeleteAt, t15.1, t15.2.1, t15.2.2.1, t15.2.2.2.1⟩ : Meta), (⟨t15.2.2.2.2.1, t15.2.2.2.2.2.1, t15.2.2.2.2.2.2.1, t15.2.2.2.2.2.2.2.1, t15.2.2.2.2.2.2.2.2.1⟩ : TValue), (⟨t15.2.2.2.2.2.2.2.2.2.1, t15.2.2.2.2.2.2.2.2.2.2.1, t15.2.2.2.2.2.2.2.2.2.2.2.1, t15.2.2.2.2.2.2.2.2.2.2.2.2.1, t15.2.2.2.2.2.2.2.2.2.2.2.2.2⟩ : TValue)⟩ : Object)) ((⟨(⟨t5.1, t5.2.1, t5.2.2.1, t5.2.2.2.1, t5.2.2.2.2.1, t5.2.2.2.2.2.1, t5.2.2.2.2.2.2.1, t5.2.2.2.2.2.2.2.1, t5.2.2.2.2.2.2.2.2.1, t5.2.2.2.2.2.2.2.2.2.1, t5.2.2.2.2.2.2.2.2.2.2.1, t5.2.2.2.2.2.2.2.2.2.2.2.1, t5.2.2.2.2.2.2.2.2.2.2.2.2.1⟩ : Meta), (⟨t5.2.2.2.2.2.2.2.2.2.2.2.2.2.1, t5.2.2.2.2.2.2.2.2.2.2.2.2.2.2.1, t5.2.2.2.2.2.2.2.2.2.2.2.2.2.2.2.1, t5.2.2.2.2.2.2.2.2.2.2.2.2.2.2.2.2.1, t5.2.2.2.2.2.2.2.2.2.2.2.2.2.2.2.2.2.1⟩ : TValue), (⟨t5.2.2.2.2.2.2.2.2.2.2.2.2.2.2.2.2.2.2.1, t5.2.2.2.2.2.2.2.2.2.2.2.2.2.2.2.2.2.2.2.1, t5.2.2.2.2.2.2.2.2.2.2.2.2.2.2.2.2.2.2.2.2.1, t5.2.2.2.2.2.2.2.2.2.2.2.2.2.2.2.2.2.2.2.2.2.1, t5.2.2.2.2.2.2.2.2.2.2.2.2.2.2.2.2.2.2.2.2.2.2.1⟩ : TValue)⟩ : Object))).bind fun t19 => (if t19 = true then (F32 x0).bind fun t21 => some ((x0.Rev, x0.Floor, t21.1, t21.2.1, t21.2.2, t5.1, t5.2.1, t5.2.2.1, t5.2.2.2.1, t5.2.2.2.2.1, t5.2.2.2.2.2.1, t5.2.2.2.2.2.2.1, t5.2.2.2.2.2.2.2.1, t5.2.2.2.2.2.2.2.2.1, t5.2.2.2.2.2.2.2.2.2.1, t5.2.2.2.2.2.2.2.2.2.2.1, t5.2.2.2.2.2.2.2.2.2.2.2.1, t5.2.2.2.2.2.2.2.2.2.2.2.2.1, t5.2.2.2.2.2.2.2.2.2.2.2.2.2.1, t5.2.2.2.2.2.2.2.2.2.2.2.2.2.2.1, t5.2.2.2.2.2.2.2.2.2.2.2.2.2.2.2.1, t5.2.2.2.2.2.2.2.2.2.2.2.2.2.2.2.2.1, t5.2.2.2.2.2.2.2.2.2.2.2.2.2.2.2.2.2.1, t5.2.2.2.2.2.2.2.2.2.2.2.2.2.2.2.2.2.2.1, t5.2.2.2.2.2.2.2.2.2.2.2.2.2.2.2.2.2.2.2.1, t5.2.2.2.2.2.2.2.2.2.2.2.2.2.2.2.2.2.2.2.2.1, t5.2.2.2.2.2.2.2.2.2.2.2.2.2.2.2.2.2.2.2.2.2.1, t5.2.2.2.2.2.2.2.2.2.2.2.2.2.2.2.2.2.2.2.2.2.2.1, 0)) else (if 1000000000000000 ≤ x0.Rev then (F32 x0).bind fun t23 => some ((x0.Rev, x0.Floor, t23.1, t23.2.1, t23.2.2, (⟨#[]⟩ : ByteArray), (⟨#[]⟩ : ByteArray), (⟨#[]⟩ : ByteArray), 0, 0, 0, 0, false, 0, [], [], [], [], 0, 0, (⟨#[]⟩ : ByteArray), [], [], 0, 0, (⟨#[]⟩ : ByteArray), [], [], 15)) else ((some (())).bind fun o24 => (F36 x0 1 ((⟨(⟨x1.Meta.Kind, x1.Meta.Namespace, x1.Meta.Name, t5.2.2.2.1, (IntKind.i64.wrap (x0.Rev + 1)), o16, t5.2.2.2.2.2.2.1, x1.Meta.Deleting, x1.Meta.DeleteAt, t15.1, t15.2.1, t15.2.2.1, t15.2.2.2.1⟩ : Meta), (⟨t15.2.2.2.2.1, t15.2.2.2.2.2.1, t15.2.2.2.2.2.2.1, t15.2.2.2.2.2.2.2.1, t15.2.2.2.2.2.2.2.2.1⟩ : TValue), (⟨t15.2.2.2.2.2.2.2.2.2.1, t15.2.2.2.2.2.2.2.2.2.2.1, t15.2.2.2.2.2.2.2.2.2.2.2.1, t15.2.2.2.2.2.2.2.2.2.2.2.2.1, t15.2.2.2.2.2.2.2.2.2.2.2.2.2⟩ : TValue)⟩ : Object))).bind fun t25 => some ((t25.1, t25.2.1, t25.2.2.1, t25.2.2.2.1, t25.2.2.2.2, x1.Meta.Kind, x1.Meta.Namespace, x1.Meta.Name, t5.2.2.2.1, (IntKind.i64.wrap (x0.Rev + 1)), o16, t5.2.2.2.2.2.2.1, x1.Meta.Deleting, x1.Meta.DeleteAt, t15.1, t15.2.1, t15.2.2.1, t15.2.2.2.1, t15.2.2.2.2.1, t15.2.2.2.2.2.1, t15.2.2.2.2.2.2.1, t15.2.2.2.2.2.2.2.1, t15.2.2.2.2.2.2.2.2.1, t15.2.2.2.2.2.2.2.2.2.1, t15.2.2.2.2.2.2.2.2.2.2.1, t15.2.2.2.2.2.2.2.2.2.2.2.1, t15.2.2.2.2.2.2.2.2.2.2.2.2.1, t15.2.2.2.2.2.2.2.2.2.2.2.2.2, 0))))))))))
def a12 : AFn := ⟨117, [(.cell 4 (some 6)), (.cell 5 (some 23)), (.tmp 6)],
 (.seq (.reg [sq 2 (.box (.t 0)),
sq 3 (.box (.t 1)),
sq 4 (.zbox [dI 0, dI 0, dI 0, dN, dN, dN]),
sq 5 (.zbox [dS ⟨#[]⟩, dS ⟨#[]⟩, dS ⟨#[]⟩, dI 0, dI 0, dI 0, dI 0, dB false, dI 0, dN, dN, dN, dN, dI 0, dI 0, dS ⟨#[]⟩, dN, dN, dI 0, dI 0, dS ⟨#[]⟩, dN, dN]),
sq 6 (.mv (kI 0))])
 (.seq (.seq (.reg [sq 10 (.load (some 23) (.t 3)),
sq 11 (.call 31 [(.t 10)]),
sq 12 (.not (.t 11))])
 (.cond (.t 12)
 (.seq (.reg [sq 13 (.load (some 6) (.t 2)),
sq 14 (.call 32 [(.t 13)]),
sq 15 (.build [dS ⟨#[]⟩, dS ⟨#[]⟩, dS ⟨#[]⟩, dI 0, dI 0, dI 0, dI 0, dB false, dI 0, dN, dN, dN, dN, dI 0, dI 0, dS ⟨#[]⟩, dN, dN, dI 0, dI 0, dS ⟨#[]⟩, dN, dN] []),
su (.store 6 (.t 4) (.t 14)),
su (.store 23 (.t 5) (.t 15)),
sq 6 (.mv (kI 1))])
 .ret)
 .skip))
 (.seq (.regd [sq 17 (.load (some 6) (.t 2)),
sq 18 (.fieldA 0 (.t 3)),
sd 19 (.load (some 13) (.t 18)) [1],
⟨(some 20), none, .call 33 [(.t 19)], [1, 2], (.new [1, 2])⟩,
⟨(some 21), none, .call 21 [(.t 17), (.t 20)], [0, 1, 2, 3], (.new [0, 1, 2, 3])⟩,
sd 16 (.mv (.t 21)) [0, 1, 2, 3, 4],
sd 22 (.ext (.t 16) 0) [0, 1, 2, 3, 4, 5],
sd 23 (.ext (.t 16) 1) [0, 1, 2, 3, 4, 5],
sq 7 (.zbox [dS ⟨#[]⟩, dS ⟨#[]⟩, dS ⟨#[]⟩, dI 0, dI 0, dI 0, dI 0, dB false, dI 0, dN, dN, dN, dN, dI 0, dI 0, dS ⟨#[]⟩, dN, dN, dI 0, dI 0, dS ⟨#[]⟩, dN, dN]),
⟨none, none, .store 23 (.t 7) (.t 22), [0, 1, 2, 3, 4, 5, 6, 8], (.lone [])⟩,
sd 8 (.mv (.t 23)) [0, 1, 2, 3, 4, 5, 6, 7, 8, 9]])
 (.seq (.block 0 (.seq (.reg [sq 25 (.mv (.t 8)),
sq 26 (.not (.t 25)),
sq 24 (.mv (.t 26))])
 (.cond (.t 24)
 (.seq (.reg [sq 27 (.load (some 6) (.t 2)),
sq 28 (.call 32 [(.t 27)]),
sq 29 (.build [dS ⟨#[]⟩, dS ⟨#[]⟩, dS ⟨#[]⟩, dI 0, dI 0, dI 0, dI 0, dB false, dI 0, dN, dN, dN, dN, dI 0, dI 0, dS ⟨#[]⟩, dN, dN, dI 0, dI 0, dS ⟨#[]⟩, dN, dN] []),
su (.store 6 (.t 4) (.t 28)),
su (.store 23 (.t 5) (.t 29)),
sq 6 (.mv (kI 7))])
 .ret)
 (.seq (.sem (.reg [sq 31 (.fieldA 0 (.t 3)),
sq 32 (.fieldA 4 (.t 31)),
sq 33 (.load none (.t 32)),
sq 34 (.bin .neq (.t 33) (kI 0)),
sq 35 (.mv (.t 34)),
⟨(some 36), (some (35, true)), .fieldA 0 (.t 3), [], (.new [])⟩,
⟨(some 37), (some (35, true)), .fieldA 4 (.t 36), [], (.new [])⟩,
⟨(some 38), (some (35, true)), .load none (.t 37), [], (.new [])⟩,
⟨(some 39), (some (35, true)), .fieldA 0 (.t 7), [], (.new [])⟩,
⟨(some 40), (some (35, true)), .fieldA 4 (.t 39), [], (.new [])⟩,
⟨(some 41), (some (35, true)), .load none (.t 40), [], (.new [])⟩,
⟨(some 42), (some (35, true)), .bin .neq (.t 38) (.t 41), [], (.new [])⟩,
sq 43 (.pick (.t 35) (.t 42) (kB false)),
sq 44 (.mv (.t 43)),
⟨(some 45), (some (44, false)), .fieldA 0 (.t 3), [], (.new [])⟩,
⟨(some 46), (some (44, false)), .fieldA 3 (.t 45), [], (.new [])⟩,
⟨(some 47), (some (44, false)), .load none (.t 46), [], (.new [])⟩,
⟨(some 48), (some (44, false)), .bin .neq (.t 47) (kI 0), [], (.new [])⟩,
⟨(some 49), (some (44, false)), .mv (.t 48), [], (.new [])⟩,
⟨(some 50), (some (49, true)), .fieldA 0 (.t 3), [], (.new [])⟩,
⟨(some 51), (some (49, true)), .fieldA 3 (.t 50), [], (.new [])⟩,
⟨(some 52), (some (49, true)), .load none (.t 51), [], (.new [])⟩,
⟨(some 53), (some (49, true)), .fieldA 0 (.t 7), [], (.new [])⟩,
⟨(some 54), (some (49, true)), .fieldA 3 (.t 53), [], (.new [])⟩,
⟨(some 55), (some (49, true)), .load none (.t 54), [], (.new [])⟩,
⟨(some 56), (some (49, true)), .bin .neq (.t 52) (.t 55), [], (.new [])⟩,
⟨(some 57), (some (44, false)), .pick (.t 49) (.t 56) (kB false), [], (.new [])⟩,
sq 58 (.pick (.t 44) (kB true) (.t 57)),
sq 30 (.mv (.t 58))]))
 (.cond (.t 30)
 (.seq (.reg [sq 59 (.load (some 6) (.t 2)),
sq 60 (.call 32 [(.t 59)]),
sq 61 (.build [dS ⟨#[]⟩, dS ⟨#[]⟩, dS ⟨#[]⟩, dI 0, dI 0, dI 0, dI 0, dB false, dI 0, dN, dN, dN, dN, dI 0, dI 0, dS ⟨#[]⟩, dN, dN, dI 0, dI 0, dS ⟨#[]⟩, dN, dN] []),
su (.store 6 (.t 4) (.t 60)),
su (.store 23 (.t 5) (.t 61)),
sq 6 (.mv (kI 9))])
 .ret)
 .skip)))))
 (.seq (.reg [sq 62 (.load (some 23) (.t 3)),
sq 63 (.call 34 [(.t 62)]),
sq 9 (.zbox [dS ⟨#[]⟩, dS ⟨#[]⟩, dS ⟨#[]⟩, dI 0, dI 0, dI 0, dI 0, dB false, dI 0, dN, dN, dN, dN, dI 0, dI 0, dS ⟨#[]⟩, dN, dN, dI 0, dI 0, dS ⟨#[]⟩, dN, dN]),
su (.store 23 (.t 9) (.t 63))])
 (.seq (.regd [sq 64 (.fieldA 0 (.t 7)),
sd 65 (.fieldA 3 (.t 64)) [0],
sd 66 (.load none (.t 65)) [0, 1],
sq 67 (.fieldA 0 (.t 7)),
sd 68 (.fieldA 6 (.t 67)) [3],
sd 69 (.load none (.t 68)) [3, 4],
sq 70 (.fieldA 0 (.t 7)),
sd 71 (.fieldA 5 (.t 70)) [6],
sd 72 (.load none (.t 71)) [6, 7],
sq 73 (.fieldA 0 (.t 7)),
sd 74 (.fieldA 4 (.t 73)) [9],
sd 75 (.load none (.t 74)) [9, 10],
sd 76 (.fieldA 0 (.t 9)) [0, 1, 2],
sd 77 (.fieldA 3 (.t 76)) [0, 1, 2, 12],
⟨none, none, .store 1 (.t 77) (.t 66), [0, 1, 2, 12, 13], (.lone [7, 67, 68, 7, 70, 71, 7, 73, 74])⟩,
sd 78 (.fieldA 0 (.t 9)) [0, 1, 2, 3, 4, 5, 12, 13, 14],
sd 79 (.fieldA 6 (.t 78)) [0, 1, 2, 3, 4, 5, 12, 13, 14, 15],
⟨none, none, .store 1 (.t 79) (.t 69), [0, 1, 2, 3, 4, 5, 12, 13, 14, 15, 16], (.lone [7, 70, 71, 7, 73, 74])⟩,
sd 80 (.fieldA 0 (.t 9)) [0, 1, 2, 3, 4, 5, 6, 7, 8, 12, 13, 14, 15, 16, 17],
sd 81 (.fieldA 5 (.t 80)) [0, 1, 2, 3, 4, 5, 6, 7, 8, 12, 13, 14, 15, 16, 17, 18],
⟨none, none, .store 1 (.t 81) (.t 72), [0, 1, 2, 3, 4, 5, 6, 7, 8, 12, 13, 14, 15, 16, 17, 18, 19], (.lone [7, 73, 74])⟩,
sd 82 (.fieldA 0 (.t 9)) [0, 1, 2, 3, 4, 5, 6, 7, 8, 9, 10, 11, 12, 13, 14, 15, 16, 17, 18, 19, 20],
sd 83 (.fieldA 4 (.t 82)) [0, 1, 2, 3, 4, 5, 6, 7, 8, 9, 10, 11, 12, 13, 14, 15, 16, 17, 18, 19, 20, 21],
⟨none, none, .store 1 (.t 83) (.t 75), [0, 1, 2, 3, 4, 5, 6, 7, 8, 9, 10, 11, 12, 13, 14, 15, 16, 17, 18, 19, 20, 21, 22], (.lone [])⟩])
 (.seq (.sem (.seq (.reg [sq 84 (.fieldA 13 (.t 9)),
sq 85 (.load (some 5) (.t 84)),
sq 86 (.fieldA 13 (.t 7)),
sq 87 (.load (some 5) (.t 86)),
sq 88 (.call 35 [(.t 85), (.t 87)]),
sq 89 (.not (.t 88))])
 (.cond (.t 89)
 (.reg [sq 90 (.fieldA 0 (.t 9)),
sq 91 (.fieldA 5 (.t 90)),
sq 92 (.load none (.t 91)),
sq 93 (.bin .add (.t 92) (kI 1)),
sq 94 (.fieldA 0 (.t 9)),
sq 95 (.fieldA 5 (.t 94)),
⟨none, none, .store 1 (.t 95) (.t 93), [], (.lone [9, 90, 91, 9, 94])⟩])
 .skip)))
 (.seq (.seq (.reg [sq 96 (.load (some 23) (.t 9)),
sq 97 (.load (some 23) (.t 7)),
⟨(some 98), none, .call 13 [(.t 96), (.t 97)], [], (.lone [9, 7])⟩])
 (.cond (.t 98)
 (.seq (.regd [sq 99 (.load (some 6) (.t 2)),
⟨(some 100), none, .call 32 [(.t 99)], [0], (.new [0])⟩,
sq 101 (.load (some 23) (.t 7)),
⟨none, none, .store 6 (.t 4) (.t 100), [0, 1], (.lone [7])⟩,
⟨none, none, .store 23 (.t 5) (.t 101), [0, 1, 2, 3], (.lone [])⟩,
sd 6 (.mv (kI 0)) [0, 1, 2, 3, 4]])
 .ret)
 .skip))
 (.seq (.seq (.reg [sq 102 (.fieldA 0 (.t 2)),
sq 103 (.load none (.t 102)),
sq 104 (.bin .geq (.t 103) (kI 1000000000000000))])
 (.cond (.t 104)
 (.seq (.reg [sq 105 (.load (some 6) (.t 2)),
sq 106 (.call 32 [(.t 105)]),
sq 107 (.build [dS ⟨#[]⟩, dS ⟨#[]⟩, dS ⟨#[]⟩, dI 0, dI 0, dI 0, dI 0, dB false, dI 0, dN, dN, dN, dN, dI 0, dI 0, dS ⟨#[]⟩, dN, dN, dI 0, dI 0, dS ⟨#[]⟩, dN, dN] []),
su (.store 6 (.t 4) (.t 106)),
su (.store 23 (.t 5) (.t 107)),
sq 6 (.mv (kI 15))])
 .ret)
 .skip))
 (.seq (.sem (.reg [sq 108 (.fieldA 0 (.t 2)),
sq 109 (.load none (.t 108)),
sq 110 (.bin .add (.t 109) (kI 1)),
sq 111 (.fieldA 0 (.t 9)),
sq 112 (.fieldA 4 (.t 111)),
⟨none, none, .store 1 (.t 112) (.t 110), [], (.lone [2, 108, 9, 111])⟩]))
 (.seq (.regd [sq 113 (.load (some 6) (.t 2)),
sq 114 (.load (some 23) (.t 9)),
⟨(some 115), none, .call 36 [(.t 113), (kI 1), (.t 114)], [0, 1], (.new [0, 1])⟩,
sq 116 (.load (some 23) (.t 9)),
⟨none, none, .store 6 (.t 4) (.t 115), [0, 1, 2], (.lone [9])⟩,
⟨none, none, .store 23 (.t 5) (.t 116), [0, 1, 2, 3, 4], (.lone [])⟩,
sd 6 (.mv (kI 0)) [0, 1, 2, 3, 4, 5]])
 .ret)))))))))))⟩
theorem a12_ok : afn Try.prog 12 = some a12.er := by kernel_rfl
theorem F12_ok {x0 : TStore} {x1 : Object} {r : Int × Int × (List Object) × (List Object) × (List Change) × ByteArray × ByteArray × ByteArray × Int × Int × Int × Int × Bool × Int × (List Label) × (List Owner) × (List ByteArray) × (List Manager) × Int × Int × ByteArray × ((List TValue)) × ((List TField)) × Int × Int × ByteArray × ((List TValue)) × ((List TField)) × Int} (h : F12 x0 x1 = some r) : CallD Try.prog 12 [.agg [dI x0.Rev, dI x0.Floor, dI x0.NextUid, dM (x0.Base.map eObject), dM (x0.Objects.map eObject), dM (x0.History.map eChange)], .agg [dS x1.Meta.Kind, dS x1.Meta.Namespace, dS x1.Meta.Name, dI x1.Meta.Uid, dI x1.Meta.Version, dI x1.Meta.Generation, dI x1.Meta.Created, dB x1.Meta.Deleting, dI x1.Meta.DeleteAt, dM (x1.Meta.Labels.map eLabel), dM (x1.Meta.Owners.map eOwner), dM (x1.Meta.Finalizers.map eS), dM (x1.Meta.Managers.map eManager), dI x1.Spec.Kind, dI x1.Spec.N, dS x1.Spec.S, dM (x1.Spec.List_.map eTValue), dM (x1.Spec.Fields.map eTField), dI x1.Status.Kind, dI x1.Status.N, dS x1.Status.S, dM (x1.Status.List_.map eTValue), dM (x1.Status.Fields.map eTField)]] [] (tupV [.agg [dI r.1, dI r.2.1, dI x0.NextUid, .own 0 0 0 (r.2.2.1.length) none, .own 1 0 0 (r.2.2.2.1.length) none, .own 2 0 0 (r.2.2.2.2.1.length) none], .agg [dS r.2.2.2.2.2.1, dS r.2.2.2.2.2.2.1, dS r.2.2.2.2.2.2.2.1, dI r.2.2.2.2.2.2.2.2.1, dI r.2.2.2.2.2.2.2.2.2.1, dI r.2.2.2.2.2.2.2.2.2.2.1, dI r.2.2.2.2.2.2.2.2.2.2.2.1, dB r.2.2.2.2.2.2.2.2.2.2.2.2.1, dI r.2.2.2.2.2.2.2.2.2.2.2.2.2.1, dM (r.2.2.2.2.2.2.2.2.2.2.2.2.2.2.1.map eLabel), dM (r.2.2.2.2.2.2.2.2.2.2.2.2.2.2.2.1.map eOwner), dM (r.2.2.2.2.2.2.2.2.2.2.2.2.2.2.2.2.1.map eS), dM (r.2.2.2.2.2.2.2.2.2.2.2.2.2.2.2.2.2.1.map eManager), dI r.2.2.2.2.2.2.2.2.2.2.2.2.2.2.2.2.2.2.1, dI r.2.2.2.2.2.2.2.2.2.2.2.2.2.2.2.2.2.2.2.1, dS r.2.2.2.2.2.2.2.2.2.2.2.2.2.2.2.2.2.2.2.2.1, dM (r.2.2.2.2.2.2.2.2.2.2.2.2.2.2.2.2.2.2.2.2.2.1.map eTValue), dM (r.2.2.2.2.2.2.2.2.2.2.2.2.2.2.2.2.2.2.2.2.2.2.1.map eTField), dI r.2.2.2.2.2.2.2.2.2.2.2.2.2.2.2.2.2.2.2.2.2.2.2.1, dI r.2.2.2.2.2.2.2.2.2.2.2.2.2.2.2.2.2.2.2.2.2.2.2.2.1, dS r.2.2.2.2.2.2.2.2.2.2.2.2.2.2.2.2.2.2.2.2.2.2.2.2.2.1, dM (r.2.2.2.2.2.2.2.2.2.2.2.2.2.2.2.2.2.2.2.2.2.2.2.2.2.2.1.map eTValue), dM (r.2.2.2.2.2.2.2.2.2.2.2.2.2.2.2.2.2.2.2.2.2.2.2.2.2.2.2.1.map eTField)], .c (dI r.2.2.2.2.2.2.2.2.2.2.2.2.2.2.2.2.2.2.2.2.2.2.2.2.2.2.2.2)]) [some (.arr 0 23 (r.2.2.1.map eObject)), some (.arr 0 23 (r.2.2.2.1.map eObject)), some (.arr 0 25 (r.2.2.2.2.1.map eChange))] := by
 refine callS a12_ok (by simp [a12]) ?_
 rw [F12] at h
 simp only [a12, VW.down, Nat.reduceEqDiff, reduceCtorEq, Nat.reduceAdd, Nat.reduceLeDiff, Nat.reduceLT, Nat.reduceBEq, Nat.reduceSub, EE.down]
 obtain ⟨t1, ht1, h⟩ := bi h
 refine cN [] (F31_ok ht1) trivial ?_
 refine ww ?_
 refine condBh h (fun c2 h => ?_) (fun c2 h => ?_)
 ·refine ww ?_
  obtain ⟨t3, ht3, h⟩ := bi h
  refine cN [] (F32_ok ht3) trivial ?_
  refine ww ?_
  cases h
  exact eF [some 4, some 5, some 6]
 ·refine ww ?_
  obtain ⟨t4, ht4, h⟩ := bi h
  refine cN [] (F33_ok ht4) trivial ?_
  refine ww ?_
  obtain ⟨t5, ht5, h⟩ := bi h
  refine cN [] (F21_ok ht5) trivial ?_
  refine ww ?_
  refine kD_new (by simp [wrs, allW, hset]) ?_
  refine ww ?_
  refine kD_new (by simp [wrs, allW, hset]) ?_
  refine ww ?_
  refine condBh h (fun c6 h => ?_) (fun c6 h => ?_)
  ·refine ww ?_
   obtain ⟨t7, ht7, h⟩ := bi h
   refine cN [] (F32_ok ht7) trivial ?_
   refine ww ?_
   cases h
   exact eF [some 9, some 10, some 11]
  ·refine ww ?_
   obtain ⟨o8, ho, h⟩ := bi h
   refine cutS (fun s => s = ⟨[(2, .one (.c (.pt 0 0))), (3, .one (.c (.pt 1 0))), (4, .one (.c (.pt 2 0))), (5, .one (.c (.pt 3 0))), (7, .one (.c (.pt 4 0))), (30, .one (.c (dB o8)))], [some (.box [dI x0.Rev, dI x0.Floor, dI x0.NextUid, dM (x0.Base.map eObject), dM (x0.Objects.map eObject), dM (x0.History.map eChange)]), some (.box [dS x1.Meta.Kind, dS x1.Meta.Namespace, dS x1.Meta.Name, dI x1.Meta.Uid, dI x1.Meta.Version, dI x1.Meta.Generation, dI x1.Meta.Created, dB x1.Meta.Deleting, dI x1.Meta.DeleteAt, dM (x1.Meta.Labels.map eLabel), dM (x1.Meta.Owners.map eOwner), dM (x1.Meta.Finalizers.map eS), dM (x1.Meta.Managers.map eManager), dI x1.Spec.Kind, dI x1.Spec.N, dS x1.Spec.S, dM (x1.Spec.List_.map eTValue), dM (x1.Spec.Fields.map eTField), dI x1.Status.Kind, dI x1.Status.N, dS x1.Status.S, dM (x1.Status.List_.map eTValue), dM (x1.Status.Fields.map eTField)]), some (.box [dI 0, dI 0, dI 0, dN, dN, dN]), some (.box [dS ((⟨#[]⟩ : ByteArray)), dS ((⟨#[]⟩ : ByteArray)), dS ((⟨#[]⟩ : ByteArray)), dI 0, dI 0, dI 0, dI 0, dB false, dI 0, dN, dN, dN, dN, dI 0, dI 0, dS ((⟨#[]⟩ : ByteArray)), dN, dN, dI 0, dI 0, dS ((⟨#[]⟩ : ByteArray)), dN, dN]), some (.box [dS t5.1, dS t5.2.1, dS t5.2.2.1, dI t5.2.2.2.1, dI t5.2.2.2.2.1, dI t5.2.2.2.2.2.1, dI t5.2.2.2.2.2.2.1, dB t5.2.2.2.2.2.2.2.1, dI t5.2.2.2.2.2.2.2.2.1, .own 5 0 0 (t5.2.2.2.2.2.2.2.2.2.1.length) none, .own 6 0 0 (t5.2.2.2.2.2.2.2.2.2.2.1.length) none, .own 7 0 0 (t5.2.2.2.2.2.2.2.2.2.2.2.1.length) none, .own 8 0 0 (t5.2.2.2.2.2.2.2.2.2.2.2.2.1.length) none, dI t5.2.2.2.2.2.2.2.2.2.2.2.2.2.1, dI t5.2.2.2.2.2.2.2.2.2.2.2.2.2.2.1, dS t5.2.2.2.2.2.2.2.2.2.2.2.2.2.2.2.1, dM (t5.2.2.2.2.2.2.2.2.2.2.2.2.2.2.2.2.1.map eTValue), dM (t5.2.2.2.2.2.2.2.2.2.2.2.2.2.2.2.2.2.1.map eTField), dI t5.2.2.2.2.2.2.2.2.2.2.2.2.2.2.2.2.2.2.1, dI t5.2.2.2.2.2.2.2.2.2.2.2.2.2.2.2.2.2.2.2.1, dS t5.2.2.2.2.2.2.2.2.2.2.2.2.2.2.2.2.2.2.2.2.1, dM (t5.2.2.2.2.2.2.2.2.2.2.2.2.2.2.2.2.2.2.2.2.2.1.map eTValue), dM (t5.2.2.2.2.2.2.2.2.2.2.2.2.2.2.2.2.2.2.2.2.2.2.1.map eTField)]), some (.arr 0 2 (t5.2.2.2.2.2.2.2.2.2.1.map eLabel)), some (.arr 0 5 (t5.2.2.2.2.2.2.2.2.2.2.1.map eOwner)), some (.arr 0 1 (t5.2.2.2.2.2.2.2.2.2.2.2.1.map eS)), some (.arr 0 2 (t5.2.2.2.2.2.2.2.2.2.2.2.2.1.map eManager))]⟩) ?_ ?_
   ·have h := ho
    clear ho
    refine ww ?_
    refine guardSh h (fun g9 h => ?_) (fun g9 h => ?_)
    ·refine ww ?_
     refine guardSh h (fun g10 h => ?_) (fun g10 h => ?_)
     ·refine ww ?_
      cases h
      exact eM [some 0, some 1, some 2, some 3, some 8, some 4, some 5, some 6, some 7] rfl
     ·refine ww ?_
      refine guardSh h (fun g11 h => ?_) (fun g11 h => ?_)
      ·refine ww ?_
       cases h
       exact eM [some 0, some 1, some 2, some 3, some 8, some 4, some 5, some 6, some 7] rfl
      ·refine ww ?_
       cases h
       exact eM [some 0, some 1, some 2, some 3, some 8, some 4, some 5, some 6, some 7] rfl
    ·refine ww ?_
     refine guardSh h (fun g12 h => ?_) (fun g12 h => ?_)
     ·refine ww ?_
      cases h
      exact eM [some 0, some 1, some 2, some 3, some 8, some 4, some 5, some 6, some 7] rfl
     ·refine ww ?_
      cases h
      exact eM [some 0, some 1, some 2, some 3, some 8, some 4, some 5, some 6, some 7] rfl
   ·rintro _ rfl
    clear ho
    refine ww ?_
    refine condBh h (fun c13 h => ?_) (fun c13 h => ?_)
    ·refine ww ?_
     obtain ⟨t14, ht14, h⟩ := bi h
     refine cN [] (F32_ok ht14) trivial ?_
     refine ww ?_
     cases h
     exact eF [some 9, some 10, some 11]
    ·refine ww ?_
     obtain ⟨t15, ht15, h⟩ := bi h
     refine cN [] (F34_ok ht15) trivial ?_
     refine ww ?_
     obtain ⟨o16, ho, h⟩ := bi h
     refine cutS (fun s => s = ⟨[(2, .one (.c (.pt 0 0))), (4, .one (.c (.pt 1 0))), (5, .one (.c (.pt 2 0))), (7, .one (.c (.pt 3 0))), (9, .one (.c (.pt 8 0)))], [some (.box [dI x0.Rev, dI x0.Floor, dI x0.NextUid, dM (x0.Base.map eObject), dM (x0.Objects.map eObject), dM (x0.History.map eChange)]), some (.box [dI 0, dI 0, dI 0, dN, dN, dN]), some (.box [dS ((⟨#[]⟩ : ByteArray)), dS ((⟨#[]⟩ : ByteArray)), dS ((⟨#[]⟩ : ByteArray)), dI 0, dI 0, dI 0, dI 0, dB false, dI 0, dN, dN, dN, dN, dI 0, dI 0, dS ((⟨#[]⟩ : ByteArray)), dN, dN, dI 0, dI 0, dS ((⟨#[]⟩ : ByteArray)), dN, dN]), some (.box [dS t5.1, dS t5.2.1, dS t5.2.2.1, dI t5.2.2.2.1, dI t5.2.2.2.2.1, dI t5.2.2.2.2.2.1, dI t5.2.2.2.2.2.2.1, dB t5.2.2.2.2.2.2.2.1, dI t5.2.2.2.2.2.2.2.2.1, .own 4 0 0 (t5.2.2.2.2.2.2.2.2.2.1.length) none, .own 5 0 0 (t5.2.2.2.2.2.2.2.2.2.2.1.length) none, .own 6 0 0 (t5.2.2.2.2.2.2.2.2.2.2.2.1.length) none, .own 7 0 0 (t5.2.2.2.2.2.2.2.2.2.2.2.2.1.length) none, dI t5.2.2.2.2.2.2.2.2.2.2.2.2.2.1, dI t5.2.2.2.2.2.2.2.2.2.2.2.2.2.2.1, dS t5.2.2.2.2.2.2.2.2.2.2.2.2.2.2.2.1, dM (t5.2.2.2.2.2.2.2.2.2.2.2.2.2.2.2.2.1.map eTValue), dM (t5.2.2.2.2.2.2.2.2.2.2.2.2.2.2.2.2.2.1.map eTField), dI t5.2.2.2.2.2.2.2.2.2.2.2.2.2.2.2.2.2.2.1, dI t5.2.2.2.2.2.2.2.2.2.2.2.2.2.2.2.2.2.2.2.1, dS t5.2.2.2.2.2.2.2.2.2.2.2.2.2.2.2.2.2.2.2.2.1, dM (t5.2.2.2.2.2.2.2.2.2.2.2.2.2.2.2.2.2.2.2.2.2.1.map eTValue), dM (t5.2.2.2.2.2.2.2.2.2.2.2.2.2.2.2.2.2.2.2.2.2.2.1.map eTField)]), some (.arr 0 2 (t5.2.2.2.2.2.2.2.2.2.1.map eLabel)), some (.arr 0 5 (t5.2.2.2.2.2.2.2.2.2.2.1.map eOwner)), some (.arr 0 1 (t5.2.2.2.2.2.2.2.2.2.2.2.1.map eS)), some (.arr 0 2 (t5.2.2.2.2.2.2.2.2.2.2.2.2.1.map eManager)), some (.box [dS x1.Meta.Kind, dS x1.Meta.Namespace, dS x1.Meta.Name, dI t5.2.2.2.1, dI t5.2.2.2.2.1, dI o16, dI t5.2.2.2.2.2.2.1, dB x1.Meta.Deleting, dI x1.Meta.DeleteAt, .own 9 0 0 (t15.1.length) none, .own 10 0 0 (t15.2.1.length) none, .own 11 0 0 (t15.2.2.1.length) none, .own 12 0 0 (t15.2.2.2.1.length) none, dI t15.2.2.2.2.1, dI t15.2.2.2.2.2.1, dS t15.2.2.2.2.2.2.1, dM (t15.2.2.2.2.2.2.2.1.map eTValue), dM (t15.2.2.2.2.2.2.2.2.1.map eTField), dI t15.2.2.2.2.2.2.2.2.2.1, dI t15.2.2.2.2.2.2.2.2.2.2.1, dS t15.2.2.2.2.2.2.2.2.2.2.2.1, dM (t15.2.2.2.2.2.2.2.2.2.2.2.2.1.map eTValue), dM (t15.2.2.2.2.2.2.2.2.2.2.2.2.2.map eTField)]), some (.arr 0 2 (t15.1.map eLabel)), some (.arr 0 5 (t15.2.1.map eOwner)), some (.arr 0 1 (t15.2.2.1.map eS)), some (.arr 0 2 (t15.2.2.2.1.map eManager))]⟩) ?_ ?_
     ·have h := ho
      clear ho
      refine ww ?_
      obtain ⟨t17, ht17, h⟩ := bi h
      refine cN [] (F35_ok ht17) trivial ?_
      refine ww ?_
      refine condBh h (fun c18 h => ?_) (fun c18 h => ?_)
      ·refine ww ?_
       cases h
       exact eM [some 0, some 2, some 3, some 4, some 5, some 6, some 7, some 8, some 13, some 9, some 10, some 11, some 12] rfl
      ·refine ww ?_
       cases h
       exact eM [some 0, some 2, some 3, some 4, some 5, some 6, some 7, some 8, some 13, some 9, some 10, some 11, some 12] rfl
     ·rintro _ rfl
      clear ho
      refine ww ?_
      obtain ⟨t19, ht19, h⟩ := bi h
      refine callX_bor (F13_ok ht19) (by simp only [borAs, bors, hp, List.getElem?_cons_zero, List.getElem?_cons_succ, Option.join_some, List.drop_zero, bor_full', true_and, Nat.zero_add, List.length_map, Nat.le_refl, nrm, List.length_cons, List.length_nil, Nat.reduceAdd, Nat.reduceLeDiff, List.take_succ_cons, List.take_zero, List.take_nil, List.map_cons, List.map_nil, List.length_set, EE.down]) rfl ?_
      refine ww ?_
      refine condBh h (fun c20 h => ?_) (fun c20 h => ?_)
      ·refine ww ?_
       obtain ⟨t21, ht21, h⟩ := bi h
       refine cN [] (F32_ok ht21) trivial ?_
       refine ww ?_
       refine kD_new (by simp [wrs, allW, hset]) ?_
       refine ww ?_
       cases h
       exact eF [some 13, some 14, some 15]
      ·refine ww ?_
       refine condSh h (fun c22 h => ?_) (fun c22 h => ?_)
       ·refine ww ?_
        obtain ⟨t23, ht23, h⟩ := bi h
        refine cN [] (F32_ok ht23) trivial ?_
        refine ww ?_
        cases h
        exact eF [some 13, some 14, some 15]
       ·refine ww ?_
        obtain ⟨o24, ho, h⟩ := bi h
        refine cutS (fun s => s = ⟨[(2, .one (.c (.pt 0 0))), (4, .one (.c (.pt 1 0))), (5, .one (.c (.pt 2 0))), (9, .one (.c (.pt 3 0)))], [some (.box [dI x0.Rev, dI x0.Floor, dI x0.NextUid, dM (x0.Base.map eObject), dM (x0.Objects.map eObject), dM (x0.History.map eChange)]), some (.box [dI 0, dI 0, dI 0, dN, dN, dN]), some (.box [dS ((⟨#[]⟩ : ByteArray)), dS ((⟨#[]⟩ : ByteArray)), dS ((⟨#[]⟩ : ByteArray)), dI 0, dI 0, dI 0, dI 0, dB false, dI 0, dN, dN, dN, dN, dI 0, dI 0, dS ((⟨#[]⟩ : ByteArray)), dN, dN, dI 0, dI 0, dS ((⟨#[]⟩ : ByteArray)), dN, dN]), some (.box [dS x1.Meta.Kind, dS x1.Meta.Namespace, dS x1.Meta.Name, dI t5.2.2.2.1, dI ((IntKind.i64.wrap (x0.Rev + 1))), dI o16, dI t5.2.2.2.2.2.2.1, dB x1.Meta.Deleting, dI x1.Meta.DeleteAt, dM (t15.1.map eLabel), dM (t15.2.1.map eOwner), dM (t15.2.2.1.map eS), dM (t15.2.2.2.1.map eManager), dI t15.2.2.2.2.1, dI t15.2.2.2.2.2.1, dS t15.2.2.2.2.2.2.1, dM (t15.2.2.2.2.2.2.2.1.map eTValue), dM (t15.2.2.2.2.2.2.2.2.1.map eTField), dI t15.2.2.2.2.2.2.2.2.2.1, dI t15.2.2.2.2.2.2.2.2.2.2.1, dS t15.2.2.2.2.2.2.2.2.2.2.2.1, dM (t15.2.2.2.2.2.2.2.2.2.2.2.2.1.map eTValue), dM (t15.2.2.2.2.2.2.2.2.2.2.2.2.2.map eTField)])]⟩) ?_ ?_
        ·have h := ho
         clear ho
         refine ww ?_
         cases h
         exact eM [some 0, some 1, some 2, some 8] rfl
        ·rintro _ rfl
         clear ho
         refine ww ?_
         obtain ⟨t25, ht25, h⟩ := bi h
         refine cN [] (F36_ok ht25) trivial ?_
         refine ww ?_
         refine kD_new (by simp [wrs, allW, hset]) ?_
         refine ww ?_
         cases h
         exact eF [some 4, some 5, some 6]

/- orchestrator/store.At -/
def F16 (x0 : TStore) (x1 : Int) : Option ((List Object) × Int) := (((if x1 < 0 then some true else some (decide (x0.Rev < x1)))).bind fun o1 => (if o1 = true then some (([], 5)) else (if x1 < x0.Floor then some (([], 10)) else (F48 x0 x1).bind fun t5 => (F47 t5).bind fun t6 => some ((t6, 0)))))
def a16 : AFn := ⟨24, [(.tmp 4), (.tmp 5)],
 (.seq (.reg [sq 2 (.box (.t 0)),
sq 4 (.mv kN),
sq 5 (.mv (kI 0))])
 (.seq (.block 0 (.seq (.sem (.reg [sq 7 (.mv (.t 1)),
sq 8 (.bin .lss (.t 7) (kI 0)),
sq 9 (.mv (.t 8)),
⟨(some 10), (some (9, false)), .mv (.t 1), [], (.new [])⟩,
⟨(some 11), (some (9, false)), .fieldA 0 (.t 2), [], (.new [])⟩,
⟨(some 12), (some (9, false)), .load none (.t 11), [], (.new [])⟩,
⟨(some 13), (some (9, false)), .bin .gtr (.t 10) (.t 12), [], (.new [])⟩,
sq 14 (.pick (.t 9) (kB true) (.t 13)),
sq 6 (.mv (.t 14))]))
 (.cond (.t 6)
 (.seq (.reg [sq 4 (.mv kN),
sq 5 (.mv (kI 5))])
 .ret)
 (.seq (.reg [sq 16 (.mv (.t 1)),
sq 17 (.fieldA 1 (.t 2)),
sq 18 (.load none (.t 17)),
sq 19 (.bin .lss (.t 16) (.t 18)),
sq 15 (.mv (.t 19))])
 (.cond (.t 15)
 (.seq (.reg [sq 4 (.mv kN),
sq 5 (.mv (kI 10))])
 .ret)
 .skip)))))
 (.seq (.reg [sq 20 (.load (some 6) (.t 2)),
sq 21 (.mv (.t 1)),
sq 22 (.call 48 [(.t 20), (.t 21)]),
sq 23 (.call 47 [(.t 22)]),
sq 4 (.mv (.t 23)),
sq 5 (.mv (kI 0))])
 .ret)))⟩
theorem a16_ok : afn Try.prog 16 = some a16.er := by kernel_rfl
theorem F16_ok {x0 : TStore} {x1 : Int} {r : (List Object) × Int} (h : F16 x0 x1 = some r) : CallD Try.prog 16 [.agg [dI x0.Rev, dI x0.Floor, dI x0.NextUid, dM (x0.Base.map eObject), dM (x0.Objects.map eObject), dM (x0.History.map eChange)], .c (dI x1)] [] (tupV [.c (.own 0 0 0 (r.1.length) none), .c (dI r.2)]) [some (.arr 0 23 (r.1.map eObject))] := by
 refine callS a16_ok (by simp [a16]) ?_
 rw [F16] at h
 simp only [a16, VW.down, Nat.reduceEqDiff, reduceCtorEq, Nat.reduceAdd, Nat.reduceLeDiff, Nat.reduceLT, Nat.reduceBEq, Nat.reduceSub, EE.down]
 obtain ⟨o1, ho, h⟩ := bi h
 refine cutS (fun s => s = ⟨[(1, .one (.c (dI x1))), (2, .one (.c (.pt 0 0))), (6, .one (.c (dB o1)))], [some (.box [dI x0.Rev, dI x0.Floor, dI x0.NextUid, dM (x0.Base.map eObject), dM (x0.Objects.map eObject), dM (x0.History.map eChange)])]⟩) ?_ ?_
 ·have h := ho
  clear ho
  refine ww ?_
  refine guardSh h (fun g2 h => ?_) (fun g2 h => ?_)
  ·refine ww ?_
   cases h
   exact eM [some 0] rfl
  ·refine ww ?_
   cases h
   exact eM [some 0] rfl
 ·rintro _ rfl
  clear ho
  refine ww ?_
  refine condBh h (fun c3 h => ?_) (fun c3 h => ?_)
  ·refine ww ?_
   cases h
   exact eF [none]
  ·refine ww ?_
   refine condSh h (fun c4 h => ?_) (fun c4 h => ?_)
   ·refine ww ?_
    cases h
    exact eF [none]
   ·refine ww ?_
    obtain ⟨t5, ht5, h⟩ := bi h
    refine cN [] (F48_ok ht5) trivial ?_
    refine ww ?_
    obtain ⟨t6, ht6, h⟩ := bi h
    refine callX_gen (as1 := [.c (dM (t5.map eObject))]) [(1, .arr 1 23 [])] [some 0, none] [] (F47_ok ht6) ⟨?_, rfl, ?_⟩ ?_ ?_ ?_ ?_ ?_ ?_ ?_ ?_
    · simp only [ZZ.down, Nat.reduceEqDiff, reduceCtorEq, Nat.reduceAdd, Nat.reduceLeDiff, Nat.reduceLT, Nat.reduceBNe, EE.down]
    · simp only [ZZ.down, Nat.reduceEqDiff, reduceCtorEq, Nat.reduceAdd, Nat.reduceLeDiff, Nat.reduceLT, Nat.reduceBNe, EE.down]
    · simp only [ZZ.down, Nat.reduceEqDiff, reduceCtorEq, Nat.reduceAdd, Nat.reduceLeDiff, Nat.reduceLT, Nat.reduceBNe, EE.down]
    · rfl
    · rfl
    · simp [liveAll, A1.live, C.live]
    · rfl
    · decide
    · exact trivial
    refine ww ?_
    cases h
    exact eF [some 2]

/- orchestrator/store.Delete -/
def F27 (x0 : TStore) (x1 : ByteArray) (x2 : Int) : Option (Int × Int × (List Object) × (List Object) × (List Change) × Object × Int) := (F21 x0 x1).bind fun t1 => (if (nb t1.2.2.2.2.2.2.2.2.2.2.2.2.2.2.2.2.2.2.2.2.2.2.2) = true then (F32 x0).bind fun t3 => some ((x0.Rev, x0.Floor, t3.1, t3.2.1, t3.2.2, (⟨(⟨(⟨#[]⟩ : ByteArray), (⟨#[]⟩ : ByteArray), (⟨#[]⟩ : ByteArray), 0, 0, 0, 0, false, 0, [], [], [], []⟩ : Meta), (⟨0, 0, (⟨#[]⟩ : ByteArray), [], []⟩ : TValue), (⟨0, 0, (⟨#[]⟩ : ByteArray), [], []⟩ : TValue)⟩ : Object), 7)) else (((if ¬ (x2 = 0) then some (decide (¬ (x2 = t1.2.2.2.2.1))) else some false)).bind fun o4 => (if o4 = true then (F32 x0).bind fun t7 => some ((x0.Rev, x0.Floor, t7.1, t7.2.1, t7.2.2, (⟨(⟨(⟨#[]⟩ : ByteArray), (⟨#[]⟩ : ByteArray), (⟨#[]⟩ : ByteArray), 0, 0, 0, 0, false, 0, [], [], [], []⟩ : Meta), (⟨0, 0, (⟨#[]⟩ : ByteArray), [], []⟩ : TValue), (⟨0, 0, (⟨#[]⟩ : ByteArray), [], []⟩ : TValue)⟩ : Object), 9)) else (if 1000000000000000 ≤ x0.Rev then (F32 x0).bind fun t9 => some ((x0.Rev, x0.Floor, t9.1, t9.2.1, t9.2.2, (⟨(⟨(⟨#[]⟩ : ByteArray), (⟨#[]⟩ : ByteArray), (⟨#[]⟩ : ByteArray), 0, 0, 0, 0, false, 0, [], [], [], []⟩ : Meta), (⟨0, 0, (⟨#[]⟩ : ByteArray), [], []⟩ : TValue), (⟨0, 0, (⟨#[]⟩ : ByteArray), [], []⟩ : TValue)⟩ : Object), 15)) else ((some (())).bind fun o10 => (F36 x0 2 ((⟨(⟨t1.1, t1.2.1, t1.2.2.1, t1.2.2.2.1, (IntKind.i64.wrap (x0.Rev + 1)), t1.2.2.2.2.2.1, t1.2.2.2.2.2.2.1, t1.2.2.2.2.2.2.2.1, t1.2.2.2.2.2.2.2.2.1, t1.2.2.2.2.2.2.2.2.2.1, t1.2.2.2.2.2.2.2.2.2.2.1, t1.2.2.2.2.2.2.2.2.2.2.2.1, t1.2.2.2.2.2.2.2.2.2.2.2.2.1⟩ : Meta), (⟨t1.2.2.2.2.2.2.2.2.2.2.2.2.2.1, t1.2.2.2.2.2.2.2.2.2.2.2.2.2.2.1, t1.2.2.2.2.2.2.2.2.2.2.2.2.2.2.2.1, t1.2.2.2.2.2.2.2.2.2.2.2.2.2.2.2.2.1, t1.2.2.2.2.2.2.2.2.2.2.2.2.2.2.2.2.2.1⟩ : TValue), (⟨t1.2.2.2.2.2.2.2.2.2.2.2.2.2.2.2.2.2.2.1, t1.2.2.2.2.2.2.2.2.2.2.2.2.2.2.2.2.2.2.2.1, t1.2.2.2.2.2.2.2.2.2.2.2.2.2.2.2.2.2.2.2.2.1, t1.2.2.2.2.2.2.2.2.2.2.2.2.2.2.2.2.2.2.2.2.2.1, t1.2.2.2.2.2.2.2.2.2.2.2.2.2.2.2.2.2.2.2.2.2.2.1⟩ : TValue)⟩ : Object))).bind fun t11 => some ((t11.1, t11.2.1, t11.2.2.1, t11.2.2.2.1, t11.2.2.2.2, (⟨(⟨t1.1, t1.2.1, t1.2.2.1, t1.2.2.2.1, (IntKind.i64.wrap (x0.Rev + 1)), t1.2.2.2.2.2.1, t1.2.2.2.2.2.2.1, t1.2.2.2.2.2.2.2.1, t1.2.2.2.2.2.2.2.2.1, t1.2.2.2.2.2.2.2.2.2.1, t1.2.2.2.2.2.2.2.2.2.2.1, t1.2.2.2.2.2.2.2.2.2.2.2.1, t1.2.2.2.2.2.2.2.2.2.2.2.2.1⟩ : Meta), (⟨t1.2.2.2.2.2.2.2.2.2.2.2.2.2.1, t1.2.2.2.2.2.2.2.2.2.2.2.2.2.2.1, t1.2.2.2.2.2.2.2.2.2.2.2.2.2.2.2.1, t1.2.2.2.2.2.2.2.2.2.2.2.2.2.2.2.2.1, t1.2.2.2.2.2.2.2.2.2.2.2.2.2.2.2.2.2.1⟩ : TValue), (⟨t1.2.2.2.2.2.2.2.2.2.2.2.2.2.2.2.2.2.2.1, t1.2.2.2.2.2.2.2.2.2.2.2.2.2.2.2.2.2.2.2.1, t1.2.2.2.2.2.2.2.2.2.2.2.2.2.2.2.2.2.2.2.2.1, t1.2.2.2.2.2.2.2.2.2.2.2.2.2.2.2.2.2.2.2.2.2.1, t1.2.2.2.2.2.2.2.2.2.2.2.2.2.2.2.2.2.2.2.2.2.2.1⟩ : TValue)⟩ : Object), 0)))))))
def a27 : AFn := ⟨52, [(.cell 6 (some 6)), (.cell 7 (some 23)), (.tmp 8)],
 (.seq (.reg [sq 3 (.box (.t 0)),
sq 6 (.zbox [dI 0, dI 0, dI 0, dN, dN, dN]),
sq 7 (.zbox [dS ⟨#[]⟩, dS ⟨#[]⟩, dS ⟨#[]⟩, dI 0, dI 0, dI 0, dI 0, dB false, dI 0, dN, dN, dN, dN, dI 0, dI 0, dS ⟨#[]⟩, dN, dN, dI 0, dI 0, dS ⟨#[]⟩, dN, dN]),
sq 8 (.mv (kI 0))])
 (.seq (.reg [sq 12 (.load (some 6) (.t 3)),
sq 13 (.mv (.t 1)),
sq 14 (.call 21 [(.t 12), (.t 13)]),
sq 11 (.mv (.t 14)),
sq 15 (.ext (.t 11) 0),
sq 16 (.ext (.t 11) 1),
sq 9 (.zbox [dS ⟨#[]⟩, dS ⟨#[]⟩, dS ⟨#[]⟩, dI 0, dI 0, dI 0, dI 0, dB false, dI 0, dN, dN, dN, dN, dI 0, dI 0, dS ⟨#[]⟩, dN, dN, dI 0, dI 0, dS ⟨#[]⟩, dN, dN]),
su (.store 23 (.t 9) (.t 15)),
sq 10 (.mv (.t 16))])
 (.seq (.block 0 (.seq (.reg [sq 18 (.mv (.t 10)),
sq 19 (.not (.t 18)),
sq 17 (.mv (.t 19))])
 (.cond (.t 17)
 (.seq (.reg [sq 20 (.load (some 6) (.t 3)),
sq 21 (.call 32 [(.t 20)]),
sq 22 (.build [dS ⟨#[]⟩, dS ⟨#[]⟩, dS ⟨#[]⟩, dI 0, dI 0, dI 0, dI 0, dB false, dI 0, dN, dN, dN, dN, dI 0, dI 0, dS ⟨#[]⟩, dN, dN, dI 0, dI 0, dS ⟨#[]⟩, dN, dN] []),
su (.store 6 (.t 6) (.t 21)),
su (.store 23 (.t 7) (.t 22)),
sq 8 (.mv (kI 7))])
 .ret)
 (.seq (.sem (.reg [sq 24 (.mv (.t 2)),
sq 25 (.bin .neq (.t 24) (kI 0)),
sq 26 (.mv (.t 25)),
⟨(some 27), (some (26, true)), .mv (.t 2), [], (.new [])⟩,
⟨(some 28), (some (26, true)), .fieldA 0 (.t 9), [], (.new [])⟩,
⟨(some 29), (some (26, true)), .fieldA 4 (.t 28), [], (.new [])⟩,
⟨(some 30), (some (26, true)), .load none (.t 29), [], (.new [])⟩,
⟨(some 31), (some (26, true)), .bin .neq (.t 27) (.t 30), [], (.new [])⟩,
sq 32 (.pick (.t 26) (.t 31) (kB false)),
sq 23 (.mv (.t 32))]))
 (.cond (.t 23)
 (.seq (.reg [sq 33 (.load (some 6) (.t 3)),
sq 34 (.call 32 [(.t 33)]),
sq 35 (.build [dS ⟨#[]⟩, dS ⟨#[]⟩, dS ⟨#[]⟩, dI 0, dI 0, dI 0, dI 0, dB false, dI 0, dN, dN, dN, dN, dI 0, dI 0, dS ⟨#[]⟩, dN, dN, dI 0, dI 0, dS ⟨#[]⟩, dN, dN] []),
su (.store 6 (.t 6) (.t 34)),
su (.store 23 (.t 7) (.t 35)),
sq 8 (.mv (kI 9))])
 .ret)
 (.seq (.reg [sq 37 (.fieldA 0 (.t 3)),
sq 38 (.load none (.t 37)),
sq 39 (.bin .geq (.t 38) (kI 1000000000000000)),
sq 36 (.mv (.t 39))])
 (.cond (.t 36)
 (.seq (.reg [sq 40 (.load (some 6) (.t 3)),
sq 41 (.call 32 [(.t 40)]),
sq 42 (.build [dS ⟨#[]⟩, dS ⟨#[]⟩, dS ⟨#[]⟩, dI 0, dI 0, dI 0, dI 0, dB false, dI 0, dN, dN, dN, dN, dI 0, dI 0, dS ⟨#[]⟩, dN, dN, dI 0, dI 0, dS ⟨#[]⟩, dN, dN] []),
su (.store 6 (.t 6) (.t 41)),
su (.store 23 (.t 7) (.t 42)),
sq 8 (.mv (kI 15))])
 .ret)
 .skip)))))))
 (.seq (.sem (.reg [sq 43 (.fieldA 0 (.t 3)),
sq 44 (.load none (.t 43)),
sq 45 (.bin .add (.t 44) (kI 1)),
sq 46 (.fieldA 0 (.t 9)),
sq 47 (.fieldA 4 (.t 46)),
⟨none, none, .store 1 (.t 47) (.t 45), [], (.lone [3, 43, 9, 46])⟩]))
 (.seq (.regd [sq 48 (.load (some 6) (.t 3)),
sq 49 (.load (some 23) (.t 9)),
⟨(some 50), none, .call 36 [(.t 48), (kI 2), (.t 49)], [0, 1], (.new [0, 1])⟩,
sq 51 (.load (some 23) (.t 9)),
⟨none, none, .store 6 (.t 6) (.t 50), [0, 1, 2], (.lone [9])⟩,
⟨none, none, .store 23 (.t 7) (.t 51), [0, 1, 2, 3, 4], (.lone [])⟩,
sd 8 (.mv (kI 0)) [0, 1, 2, 3, 4, 5]])
 .ret)))))⟩
theorem a27_ok : afn Try.prog 27 = some a27.er := by kernel_rfl
theorem F27_ok {x0 : TStore} {x1 : ByteArray} {x2 : Int} {r : Int × Int × (List Object) × (List Object) × (List Change) × Object × Int} (h : F27 x0 x1 x2 = some r) : CallD Try.prog 27 [.agg [dI x0.Rev, dI x0.Floor, dI x0.NextUid, dM (x0.Base.map eObject), dM (x0.Objects.map eObject), dM (x0.History.map eChange)], .c (dS x1), .c (dI x2)] [] (tupV [.agg [dI r.1, dI r.2.1, dI x0.NextUid, .own 0 0 0 (r.2.2.1.length) none, .own 1 0 0 (r.2.2.2.1.length) none, .own 2 0 0 (r.2.2.2.2.1.length) none], .agg [dS ((r.2.2.2.2.2.1).Meta.Kind), dS ((r.2.2.2.2.2.1).Meta.Namespace), dS ((r.2.2.2.2.2.1).Meta.Name), dI ((r.2.2.2.2.2.1).Meta.Uid), dI ((r.2.2.2.2.2.1).Meta.Version), dI ((r.2.2.2.2.2.1).Meta.Generation), dI ((r.2.2.2.2.2.1).Meta.Created), dB ((r.2.2.2.2.2.1).Meta.Deleting), dI ((r.2.2.2.2.2.1).Meta.DeleteAt), dM (((r.2.2.2.2.2.1).Meta.Labels).map eLabel), dM (((r.2.2.2.2.2.1).Meta.Owners).map eOwner), dM (((r.2.2.2.2.2.1).Meta.Finalizers).map eS), dM (((r.2.2.2.2.2.1).Meta.Managers).map eManager), dI ((r.2.2.2.2.2.1).Spec.Kind), dI ((r.2.2.2.2.2.1).Spec.N), dS ((r.2.2.2.2.2.1).Spec.S), dM (((r.2.2.2.2.2.1).Spec.List_).map eTValue), dM (((r.2.2.2.2.2.1).Spec.Fields).map eTField), dI ((r.2.2.2.2.2.1).Status.Kind), dI ((r.2.2.2.2.2.1).Status.N), dS ((r.2.2.2.2.2.1).Status.S), dM (((r.2.2.2.2.2.1).Status.List_).map eTValue), dM (((r.2.2.2.2.2.1).Status.Fields).map eTField)], .c (dI r.2.2.2.2.2.2)]) [some (.arr 0 23 (r.2.2.1.map eObject)), some (.arr 0 23 (r.2.2.2.1.map eObject)), some (.arr 0 25 (r.2.2.2.2.1.map eChange))] := by
 refine callS a27_ok (by simp [a27]) ?_
 rw [F27] at h
 simp only [a27, VW.down, Nat.reduceEqDiff, reduceCtorEq, Nat.reduceAdd, Nat.reduceLeDiff, Nat.reduceLT, Nat.reduceBEq, Nat.reduceSub, EE.down]
 obtain ⟨t1, ht1, h⟩ := bi h
 refine cN [] (F21_ok ht1) trivial ?_
 refine ww ?_
 refine condBh h (fun c2 h => ?_) (fun c2 h => ?_)
 ·refine ww ?_
  obtain ⟨t3, ht3, h⟩ := bi h
  refine cN [] (F32_ok ht3) trivial ?_
  refine ww ?_
  cases h
  exact eF [some 8, some 9, some 10]
 ·refine ww ?_
  obtain ⟨o4, ho, h⟩ := bi h
  refine cutS (fun s => s = ⟨[(3, .one (.c (.pt 0 0))), (6, .one (.c (.pt 1 0))), (7, .one (.c (.pt 2 0))), (9, .one (.c (.pt 3 0))), (23, .one (.c (dB o4)))], [some (.box [dI x0.Rev, dI x0.Floor, dI x0.NextUid, dM (x0.Base.map eObject), dM (x0.Objects.map eObject), dM (x0.History.map eChange)]), some (.box [dI 0, dI 0, dI 0, dN, dN, dN]), some (.box [dS ((⟨#[]⟩ : ByteArray)), dS ((⟨#[]⟩ : ByteArray)), dS ((⟨#[]⟩ : ByteArray)), dI 0, dI 0, dI 0, dI 0, dB false, dI 0, dN, dN, dN, dN, dI 0, dI 0, dS ((⟨#[]⟩ : ByteArray)), dN, dN, dI 0, dI 0, dS ((⟨#[]⟩ : ByteArray)), dN, dN]), some (.box [dS t1.1, dS t1.2.1, dS t1.2.2.1, dI t1.2.2.2.1, dI t1.2.2.2.2.1, dI t1.2.2.2.2.2.1, dI t1.2.2.2.2.2.2.1, dB t1.2.2.2.2.2.2.2.1, dI t1.2.2.2.2.2.2.2.2.1, .own 4 0 0 (t1.2.2.2.2.2.2.2.2.2.1.length) none, .own 5 0 0 (t1.2.2.2.2.2.2.2.2.2.2.1.length) none, .own 6 0 0 (t1.2.2.2.2.2.2.2.2.2.2.2.1.length) none, .own 7 0 0 (t1.2.2.2.2.2.2.2.2.2.2.2.2.1.length) none, dI t1.2.2.2.2.2.2.2.2.2.2.2.2.2.1, dI t1.2.2.2.2.2.2.2.2.2.2.2.2.2.2.1, dS t1.2.2.2.2.2.2.2.2.2.2.2.2.2.2.2.1, dM (t1.2.2.2.2.2.2.2.2.2.2.2.2.2.2.2.2.1.map eTValue), dM (t1.2.2.2.2.2.2.2.2.2.2.2.2.2.2.2.2.2.1.map eTField), dI t1.2.2.2.2.2.2.2.2.2.2.2.2.2.2.2.2.2.2.1, dI t1.2.2.2.2.2.2.2.2.2.2.2.2.2.2.2.2.2.2.2.1, dS t1.2.2.2.2.2.2.2.2.2.2.2.2.2.2.2.2.2.2.2.2.1, dM (t1.2.2.2.2.2.2.2.2.2.2.2.2.2.2.2.2.2.2.2.2.2.1.map eTValue), dM (t1.2.2.2.2.2.2.2.2.2.2.2.2.2.2.2.2.2.2.2.2.2.2.1.map eTField)]), some (.arr 0 2 (t1.2.2.2.2.2.2.2.2.2.1.map eLabel)), some (.arr 0 5 (t1.2.2.2.2.2.2.2.2.2.2.1.map eOwner)), some (.arr 0 1 (t1.2.2.2.2.2.2.2.2.2.2.2.1.map eS)), some (.arr 0 2 (t1.2.2.2.2.2.2.2.2.2.2.2.2.1.map eManager))]⟩) ?_ ?_
  ·have h := ho
   clear ho
   refine ww ?_
   refine guardSh h (fun g5 h => ?_) (fun g5 h => ?_)
   ·refine ww ?_
    cases h
    exact eM [some 0, some 1, some 2, some 7, some 3, some 4, some 5, some 6] rfl
   ·refine ww ?_
    cases h
    exact eM [some 0, some 1, some 2, some 7, some 3, some 4, some 5, some 6] rfl
  ·rintro _ rfl
   clear ho
   refine ww ?_
   refine condBh h (fun c6 h => ?_) (fun c6 h => ?_)
   ·refine ww ?_
    obtain ⟨t7, ht7, h⟩ := bi h
    refine cN [] (F32_ok ht7) trivial ?_
    refine ww ?_
    cases h
    exact eF [some 8, some 9, some 10]
   ·refine ww ?_
    refine condSh h (fun c8 h => ?_) (fun c8 h => ?_)
    ·refine ww ?_
     obtain ⟨t9, ht9, h⟩ := bi h
     refine cN [] (F32_ok ht9) trivial ?_
     refine ww ?_
     cases h
     exact eF [some 8, some 9, some 10]
    ·refine ww ?_
     obtain ⟨o10, ho, h⟩ := bi h
     refine cutS (fun s => s = ⟨[(3, .one (.c (.pt 0 0))), (6, .one (.c (.pt 1 0))), (7, .one (.c (.pt 2 0))), (9, .one (.c (.pt 3 0)))], [some (.box [dI x0.Rev, dI x0.Floor, dI x0.NextUid, dM (x0.Base.map eObject), dM (x0.Objects.map eObject), dM (x0.History.map eChange)]), some (.box [dI 0, dI 0, dI 0, dN, dN, dN]), some (.box [dS ((⟨#[]⟩ : ByteArray)), dS ((⟨#[]⟩ : ByteArray)), dS ((⟨#[]⟩ : ByteArray)), dI 0, dI 0, dI 0, dI 0, dB false, dI 0, dN, dN, dN, dN, dI 0, dI 0, dS ((⟨#[]⟩ : ByteArray)), dN, dN, dI 0, dI 0, dS ((⟨#[]⟩ : ByteArray)), dN, dN]), some (.box [dS t1.1, dS t1.2.1, dS t1.2.2.1, dI t1.2.2.2.1, dI ((IntKind.i64.wrap (x0.Rev + 1))), dI t1.2.2.2.2.2.1, dI t1.2.2.2.2.2.2.1, dB t1.2.2.2.2.2.2.2.1, dI t1.2.2.2.2.2.2.2.2.1, dM (t1.2.2.2.2.2.2.2.2.2.1.map eLabel), dM (t1.2.2.2.2.2.2.2.2.2.2.1.map eOwner), dM (t1.2.2.2.2.2.2.2.2.2.2.2.1.map eS), dM (t1.2.2.2.2.2.2.2.2.2.2.2.2.1.map eManager), dI t1.2.2.2.2.2.2.2.2.2.2.2.2.2.1, dI t1.2.2.2.2.2.2.2.2.2.2.2.2.2.2.1, dS t1.2.2.2.2.2.2.2.2.2.2.2.2.2.2.2.1, dM (t1.2.2.2.2.2.2.2.2.2.2.2.2.2.2.2.2.1.map eTValue), dM (t1.2.2.2.2.2.2.2.2.2.2.2.2.2.2.2.2.2.1.map eTField), dI t1.2.2.2.2.2.2.2.2.2.2.2.2.2.2.2.2.2.2.1, dI t1.2.2.2.2.2.2.2.2.2.2.2.2.2.2.2.2.2.2.2.1, dS t1.2.2.2.2.2.2.2.2.2.2.2.2.2.2.2.2.2.2.2.2.1, dM (t1.2.2.2.2.2.2.2.2.2.2.2.2.2.2.2.2.2.2.2.2.2.1.map eTValue), dM (t1.2.2.2.2.2.2.2.2.2.2.2.2.2.2.2.2.2.2.2.2.2.2.1.map eTField)])]⟩) ?_ ?_
     ·have h := ho
      clear ho
      refine ww ?_
      cases h
      exact eM [some 0, some 1, some 2, some 3] rfl
     ·rintro _ rfl
      clear ho
      refine ww ?_
      obtain ⟨t11, ht11, h⟩ := bi h
      refine cN [] (F36_ok ht11) trivial ?_
      refine ww ?_
      refine kD_new (by simp [wrs, allW, hset]) ?_
      refine ww ?_
      cases h
      exact eF [some 4, some 5, some 6]

/- orchestrator/store.Compact -/
def F19 (x0 : TStore) (x1 : Int) : Option (Int × (List Object) × (List Object) × (List Change) × Int) := (((if x1 < x0.Floor then some true else some (decide (x0.Rev < x1)))).bind fun o1 => (if o1 = true then (F32 x0).bind fun t4 => some ((x0.Floor, t4.1, t4.2.1, t4.2.2, 5)) else (F49 x0 x1).bind fun t5 => (F32 ((⟨x0.Rev, x1, x0.NextUid, t5.1, x0.Objects, t5.2⟩ : TStore))).bind fun t6 => some ((x1, t6.1, t6.2.1, t6.2.2, 0))))
def a19 : AFn := ⟨22, [(.cell 4 (some 6)), (.tmp 5)],
 (.seq (.reg [sq 2 (.box (.t 0)),
sq 4 (.zbox [dI 0, dI 0, dI 0, dN, dN, dN]),
sq 5 (.mv (kI 0))])
 (.seq (.seq (.sem (.reg [sq 6 (.mv (.t 1)),
sq 7 (.fieldA 1 (.t 2)),
sq 8 (.load none (.t 7)),
sq 9 (.bin .lss (.t 6) (.t 8)),
sq 10 (.mv (.t 9)),
⟨(some 11), (some (10, false)), .mv (.t 1), [], (.new [])⟩,
⟨(some 12), (some (10, false)), .fieldA 0 (.t 2), [], (.new [])⟩,
⟨(some 13), (some (10, false)), .load none (.t 12), [], (.new [])⟩,
⟨(some 14), (some (10, false)), .bin .gtr (.t 11) (.t 13), [], (.new [])⟩,
⟨(some 15), none, .pick (.t 10) (kB true) (.t 14), [], (.lone [2, 7, 2, 12])⟩]))
 (.cond (.t 15)
 (.seq (.reg [sq 16 (.load (some 6) (.t 2)),
sq 17 (.call 32 [(.t 16)]),
su (.store 6 (.t 4) (.t 17)),
sq 5 (.mv (kI 5))])
 .ret)
 .skip))
 (.seq (.reg [sq 18 (.load (some 6) (.t 2)),
sq 19 (.mv (.t 1)),
sq 20 (.call 49 [(.t 18), (.t 19)]),
sq 21 (.call 32 [(.t 20)]),
su (.store 6 (.t 4) (.t 21)),
sq 5 (.mv (kI 0))])
 .ret)))⟩
theorem a19_ok : afn Try.prog 19 = some a19.er := by kernel_rfl
theorem F19_ok {x0 : TStore} {x1 : Int} {r : Int × (List Object) × (List Object) × (List Change) × Int} (h : F19 x0 x1 = some r) : CallD Try.prog 19 [.agg [dI x0.Rev, dI x0.Floor, dI x0.NextUid, dM (x0.Base.map eObject), dM (x0.Objects.map eObject), dM (x0.History.map eChange)], .c (dI x1)] [] (tupV [.agg [dI x0.Rev, dI r.1, dI x0.NextUid, .own 0 0 0 (r.2.1.length) none, .own 1 0 0 (r.2.2.1.length) none, .own 2 0 0 (r.2.2.2.1.length) none], .c (dI r.2.2.2.2)]) [some (.arr 0 23 (r.2.1.map eObject)), some (.arr 0 23 (r.2.2.1.map eObject)), some (.arr 0 25 (r.2.2.2.1.map eChange))] := by
 refine callS a19_ok (by simp [a19]) ?_
 rw [F19] at h
 simp only [a19, VW.down, Nat.reduceEqDiff, reduceCtorEq, Nat.reduceAdd, Nat.reduceLeDiff, Nat.reduceLT, Nat.reduceBEq, Nat.reduceSub, EE.down]
 obtain ⟨o1, ho, h⟩ := bi h
 refine cutS (fun s => s = ⟨[(1, .one (.c (dI x1))), (2, .one (.c (.pt 0 0))), (4, .one (.c (.pt 1 0))), (15, .one (.c (dB o1)))], [some (.box [dI x0.Rev, dI x0.Floor, dI x0.NextUid, dM (x0.Base.map eObject), dM (x0.Objects.map eObject), dM (x0.History.map eChange)]), some (.box [dI 0, dI 0, dI 0, dN, dN, dN])]⟩) ?_ ?_
 ·have h := ho
  clear ho
  refine ww ?_
  refine guardSh h (fun g2 h => ?_) (fun g2 h => ?_)
  ·refine ww ?_
   cases h
   exact eM [some 0, some 1] rfl
  ·refine ww ?_
   cases h
   exact eM [some 0, some 1] rfl
 ·rintro _ rfl
  clear ho
  refine ww ?_
  refine condBh h (fun c3 h => ?_) (fun c3 h => ?_)
  ·refine ww ?_
   obtain ⟨t4, ht4, h⟩ := bi h
   refine cN [] (F32_ok ht4) trivial ?_
   refine ww ?_
   cases h
   exact eF [some 2, some 3, some 4]
  ·refine ww ?_
   obtain ⟨t5, ht5, h⟩ := bi h
   refine cN [] (F49_ok ht5) trivial ?_
   refine ww ?_
   obtain ⟨t6, ht6, h⟩ := bi h
   refine callX_gen (as1 := [.agg [dI x0.Rev, dI x1, dI x0.NextUid, dM (t5.1.map eObject), dM (x0.Objects.map eObject), dM (t5.2.map eChange)]]) [(2, .arr 1 23 [])] [some 0, some 1, none] [] (F32_ok ht6) ⟨?_, rfl, ?_⟩ ?_ ?_ ?_ ?_ ?_ ?_ ?_ ?_
   · simp only [ZZ.down, Nat.reduceEqDiff, reduceCtorEq, Nat.reduceAdd, Nat.reduceLeDiff, Nat.reduceLT, Nat.reduceBNe, EE.down]
   · simp only [ZZ.down, Nat.reduceEqDiff, reduceCtorEq, Nat.reduceAdd, Nat.reduceLeDiff, Nat.reduceLT, Nat.reduceBNe, EE.down]
   · simp only [ZZ.down, Nat.reduceEqDiff, reduceCtorEq, Nat.reduceAdd, Nat.reduceLeDiff, Nat.reduceLT, Nat.reduceBNe, EE.down]
   · rfl
   · rfl
   · simp [liveAll, A1.live, C.live]
   · rfl
   · decide
   · exact trivial
   refine ww ?_
   cases h
   exact eF [some 3, some 4, some 5]

/- orchestrator/orchestratorlaw14.awake -/
def F8  : Option (Bool) := (F9).bind fun t1 => (F26 ((⟨#[97]⟩ : ByteArray)) 1).bind fun t2 => (F25 ((⟨0, 0, 1, [], [], []⟩ : TStore)) ((⟨(⟨(⟨#[80, 111, 100]⟩ : ByteArray), (⟨#[110]⟩ : ByteArray), ((⟨#[97]⟩ : ByteArray)), 0, 0, 0, 0, false, 0, [], [], [], []⟩ : Meta), (⟨2, (1 : Int), (⟨#[]⟩ : ByteArray), [], []⟩ : TValue), (⟨0, 0, (⟨#[]⟩ : ByteArray), [], []⟩ : TValue)⟩ : Object)) 5).bind fun t3 => (((F12 ((⟨t3.1, t3.2.1, t3.2.2.1, t3.2.2.2.1, t3.2.2.2.2.1, t3.2.2.2.2.2.1⟩ : TStore)) ((⟨(⟨(t3.2.2.2.2.2.2.1).Meta.Kind, (t3.2.2.2.2.2.2.1).Meta.Namespace, (t3.2.2.2.2.2.2.1).Meta.Name, (t3.2.2.2.2.2.2.1).Meta.Uid, (t3.2.2.2.2.2.2.1).Meta.Version, (t3.2.2.2.2.2.2.1).Meta.Generation, (t3.2.2.2.2.2.2.1).Meta.Created, (t3.2.2.2.2.2.2.1).Meta.Deleting, (t3.2.2.2.2.2.2.1).Meta.DeleteAt, (t3.2.2.2.2.2.2.1).Meta.Labels, (t3.2.2.2.2.2.2.1).Meta.Owners, (t3.2.2.2.2.2.2.1).Meta.Finalizers, (t3.2.2.2.2.2.2.1).Meta.Managers⟩ : Meta), (⟨2, 2, (⟨#[]⟩ : ByteArray), [], []⟩ : TValue), (⟨(t3.2.2.2.2.2.2.1).Status.Kind, (t3.2.2.2.2.2.2.1).Status.N, (t3.2.2.2.2.2.2.1).Status.S, (t3.2.2.2.2.2.2.1).Status.List_, (t3.2.2.2.2.2.2.1).Status.Fields⟩ : TValue)⟩ : Object))).bind fun t5 => some ((t5.1, t5.2.1, t5.2.2.1, t5.2.2.2.1, t5.2.2.2.2.1, (⟨(⟨t5.2.2.2.2.2.1, t5.2.2.2.2.2.2.1, t5.2.2.2.2.2.2.2.1, t5.2.2.2.2.2.2.2.2.1, t5.2.2.2.2.2.2.2.2.2.1, t5.2.2.2.2.2.2.2.2.2.2.1, t5.2.2.2.2.2.2.2.2.2.2.2.1, t5.2.2.2.2.2.2.2.2.2.2.2.2.1, t5.2.2.2.2.2.2.2.2.2.2.2.2.2.1, t5.2.2.2.2.2.2.2.2.2.2.2.2.2.2.1, t5.2.2.2.2.2.2.2.2.2.2.2.2.2.2.2.1, t5.2.2.2.2.2.2.2.2.2.2.2.2.2.2.2.2.1, t5.2.2.2.2.2.2.2.2.2.2.2.2.2.2.2.2.2.1⟩ : Meta), (⟨t5.2.2.2.2.2.2.2.2.2.2.2.2.2.2.2.2.2.2.1, t5.2.2.2.2.2.2.2.2.2.2.2.2.2.2.2.2.2.2.2.1, t5.2.2.2.2.2.2.2.2.2.2.2.2.2.2.2.2.2.2.2.2.1, t5.2.2.2.2.2.2.2.2.2.2.2.2.2.2.2.2.2.2.2.2.2.1, t5.2.2.2.2.2.2.2.2.2.2.2.2.2.2.2.2.2.2.2.2.2.2.1⟩ : TValue), (⟨t5.2.2.2.2.2.2.2.2.2.2.2.2.2.2.2.2.2.2.2.2.2.2.2.1, t5.2.2.2.2.2.2.2.2.2.2.2.2.2.2.2.2.2.2.2.2.2.2.2.2.1, t5.2.2.2.2.2.2.2.2.2.2.2.2.2.2.2.2.2.2.2.2.2.2.2.2.2.1, t5.2.2.2.2.2.2.2.2.2.2.2.2.2.2.2.2.2.2.2.2.2.2.2.2.2.2.1, t5.2.2.2.2.2.2.2.2.2.2.2.2.2.2.2.2.2.2.2.2.2.2.2.2.2.2.2.1⟩ : TValue)⟩ : Object), t5.2.2.2.2.2.2.2.2.2.2.2.2.2.2.2.2.2.2.2.2.2.2.2.2.2.2.2.2))).bind fun o4 => (F12 ((⟨o4.1, o4.2.1, t3.2.2.1, o4.2.2.1, o4.2.2.2.1, o4.2.2.2.2.1⟩ : TStore)) ((⟨(⟨(t3.2.2.2.2.2.2.1).Meta.Kind, (t3.2.2.2.2.2.2.1).Meta.Namespace, (t3.2.2.2.2.2.2.1).Meta.Name, (t3.2.2.2.2.2.2.1).Meta.Uid, (t3.2.2.2.2.2.2.1).Meta.Version, (t3.2.2.2.2.2.2.1).Meta.Generation, (t3.2.2.2.2.2.2.1).Meta.Created, (t3.2.2.2.2.2.2.1).Meta.Deleting, (t3.2.2.2.2.2.2.1).Meta.DeleteAt, (t3.2.2.2.2.2.2.1).Meta.Labels, (t3.2.2.2.2.2.2.1).Meta.Owners, (t3.2.2.2.2.2.2.1).Meta.Finalizers, (t3.2.2.2.2.2.2.1).Meta.Managers⟩ : Meta), (⟨2, 2, (⟨#[]⟩ : ByteArray), [], []⟩ : TValue), (⟨(t3.2.2.2.2.2.2.1).Status.Kind, (t3.2.2.2.2.2.2.1).Status.N, (t3.2.2.2.2.2.2.1).Status.S, (t3.2.2.2.2.2.2.1).Status.List_, (t3.2.2.2.2.2.2.1).Status.Fields⟩ : TValue)⟩ : Object))).bind fun t6 => (F16 ((⟨o4.1, o4.2.1, t3.2.2.1, o4.2.2.1, o4.2.2.2.1, o4.2.2.2.2.1⟩ : TStore)) 1).bind fun t7 => (F27 ((⟨o4.1, o4.2.1, t3.2.2.1, o4.2.2.1, o4.2.2.2.1, o4.2.2.2.2.1⟩ : TStore)) ((⟨#[80, 111, 100, 47, 110, 47, 97]⟩ : ByteArray)) 0).bind fun t8 => (((F19 ((⟨t8.1, t8.2.1, t3.2.2.1, t8.2.2.1, t8.2.2.2.1, t8.2.2.2.2.1⟩ : TStore)) 2).bind fun t10 => some ((t10.1, t10.2.1, t10.2.2.1, t10.2.2.2.1, t10.2.2.2.2))).bind fun o9 => (F16 ((⟨t8.1, o9.1, t3.2.2.1, o9.2.1, o9.2.2.1, o9.2.2.2.1⟩ : TStore)) 1).bind fun t11 => (((if ¬ (t3.2.2.2.2.2.2.2 = 0) then some true else (if ¬ (o4.2.2.2.2.2.2 = 0) then some true else (if ¬ (t6.2.2.2.2.2.2.2.2.2.2.2.2.2.2.2.2.2.2.2.2.2.2.2.2.2.2.2.2 = 9) then some true else (if ¬ (t7.2 = 0) then some true else (if ¬ (t8.2.2.2.2.2.2 = 0) then some true else (if ¬ (o9.2.2.2.2 = 0) then some true else some (decide (¬ (t11.2 = 10)))))))))).bind fun o12 => (if o12 = true then some false else (((if (t3.2.2.2.2.2.2.1).Meta.Uid = 1 then (if (t3.2.2.2.2.2.2.1).Meta.Version = 1 then (if (t3.2.2.2.2.2.2.1).Meta.Generation = 1 then (if (t3.2.2.2.2.2.2.1).Meta.Created = 5 then (if (o4.2.2.2.2.2.1).Meta.Version = 2 then (if (o4.2.2.2.2.2.1).Meta.Generation = 2 then (if (t7.1.length : Int) = 1 then (rdI t7.1 0).bind fun y28 => (if y28.Spec.N = 1 then (if (t8.2.2.2.2.2.1).Meta.Version = 3 then (if t8.1 = 3 then (if (o9.2.2.1.length : Int) = 0 then some (decide ((o9.2.2.2.1.length : Int) = 1)) else some false) else some false) else some false) else some false) else some false) else some false) else some false) else some false) else some false) else some false) else some false)).bind fun o20 => some o20)))))
def a8 : AFn := ⟨158, [(.tmp 0)],
 (.seq (.reg [sq 0 (.mv (kB false))])
 (.seq (.reg [sq 18 (.call 9 []),
sq 19 (.call 26 [(kS ⟨#[97]⟩), (kI 1)]),
sq 20 (.call 25 [(.t 18), (.t 19), (kI 5)]),
sq 17 (.mv (.t 20)),
sq 21 (.ext (.t 17) 0),
sq 22 (.ext (.t 17) 1),
sq 23 (.ext (.t 17) 2),
sq 1 (.zbox [dI 0, dI 0, dI 0, dN, dN, dN]),
sq 2 (.zbox [dS ⟨#[]⟩, dS ⟨#[]⟩, dS ⟨#[]⟩, dI 0, dI 0, dI 0, dI 0, dB false, dI 0, dN, dN, dN, dN, dI 0, dI 0, dS ⟨#[]⟩, dN, dN, dI 0, dI 0, dS ⟨#[]⟩, dN, dN]),
su (.store 6 (.t 1) (.t 21)),
su (.store 23 (.t 2) (.t 22)),
sq 3 (.mv (.t 23))])
 (.seq (.reg [sq 24 (.load (some 23) (.t 2)),
sq 4 (.zbox [dS ⟨#[]⟩, dS ⟨#[]⟩, dS ⟨#[]⟩, dI 0, dI 0, dI 0, dI 0, dB false, dI 0, dN, dN, dN, dN, dI 0, dI 0, dS ⟨#[]⟩, dN, dN, dI 0, dI 0, dS ⟨#[]⟩, dN, dN]),
su (.store 23 (.t 4) (.t 24))])
 (.seq (.reg [sq 25 (.build [dI 0, dI 0, dS ⟨#[]⟩, dN, dN] [(0, 1, (kI 2)), (1, 1, (kI 2))]),
sq 26 (.fieldA 13 (.t 4)),
su (.store 5 (.t 26) (.t 25))])
 (.seq (.sem (.reg [sq 28 (.load (some 6) (.t 1)),
sq 29 (.load (some 23) (.t 4)),
sq 30 (.call 12 [(.t 28), (.t 29)]),
sq 27 (.mv (.t 30)),
sq 31 (.ext (.t 27) 0),
sq 32 (.ext (.t 27) 1),
sq 33 (.ext (.t 27) 2),
sq 5 (.zbox [dS ⟨#[]⟩, dS ⟨#[]⟩, dS ⟨#[]⟩, dI 0, dI 0, dI 0, dI 0, dB false, dI 0, dN, dN, dN, dN, dI 0, dI 0, dS ⟨#[]⟩, dN, dN, dI 0, dI 0, dS ⟨#[]⟩, dN, dN]),
su (.store 6 (.t 1) (.t 31)),
su (.store 23 (.t 5) (.t 32)),
sq 6 (.mv (.t 33))]))
 (.seq (.reg [sq 35 (.load (some 6) (.t 1)),
sq 36 (.load (some 23) (.t 4)),
sq 37 (.call 12 [(.t 35), (.t 36)]),
sq 34 (.mv (.t 37)),
sq 38 (.ext (.t 34) 0),
sq 39 (.ext (.t 34) 1),
sq 40 (.ext (.t 34) 2),
sq 7 (.zbox [dI 0, dI 0, dI 0, dN, dN, dN]),
sq 8 (.zbox [dS ⟨#[]⟩, dS ⟨#[]⟩, dS ⟨#[]⟩, dI 0, dI 0, dI 0, dI 0, dB false, dI 0, dN, dN, dN, dN, dI 0, dI 0, dS ⟨#[]⟩, dN, dN, dI 0, dI 0, dS ⟨#[]⟩, dN, dN]),
su (.store 6 (.t 7) (.t 38)),
su (.store 23 (.t 8) (.t 39)),
sq 9 (.mv (.t 40))])
 (.seq (.reg [sq 42 (.load (some 6) (.t 1)),
sq 43 (.call 16 [(.t 42), (kI 1)]),
sq 41 (.mv (.t 43)),
sq 44 (.ext (.t 41) 0),
sq 45 (.ext (.t 41) 1),
sq 10 (.mv (.t 44)),
sq 11 (.mv (.t 45))])
 (.seq (.reg [sq 47 (.load (some 6) (.t 1)),
sq 48 (.call 27 [(.t 47), (kS ⟨#[80, 111, 100, 47, 110, 47, 97]⟩), (kI 0)]),
sq 46 (.mv (.t 48)),
sq 49 (.ext (.t 46) 0),
sq 50 (.ext (.t 46) 1),
sq 51 (.ext (.t 46) 2),
sq 12 (.zbox [dS ⟨#[]⟩, dS ⟨#[]⟩, dS ⟨#[]⟩, dI 0, dI 0, dI 0, dI 0, dB false, dI 0, dN, dN, dN, dN, dI 0, dI 0, dS ⟨#[]⟩, dN, dN, dI 0, dI 0, dS ⟨#[]⟩, dN, dN]),
su (.store 6 (.t 1) (.t 49)),
su (.store 23 (.t 12) (.t 50)),
sq 13 (.mv (.t 51))])
 (.seq (.sem (.reg [sq 53 (.load (some 6) (.t 1)),
sq 54 (.call 19 [(.t 53), (kI 2)]),
sq 52 (.mv (.t 54)),
sq 55 (.ext (.t 52) 0),
sq 56 (.ext (.t 52) 1),
su (.store 6 (.t 1) (.t 55)),
sq 14 (.mv (.t 56))]))
 (.seq (.reg [sq 58 (.load (some 6) (.t 1)),
sq 59 (.call 16 [(.t 58), (kI 1)]),
sq 57 (.mv (.t 59)),
sq 60 (.ext (.t 57) 0),
sq 61 (.ext (.t 57) 1),
sq 15 (.mv (.t 60)),
sq 16 (.mv (.t 61))])
 (.seq (.seq (.sem (.reg [sq 62 (.mv (.t 3)),
sq 63 (.bin .neq (.t 62) (kI 0)),
sq 64 (.mv (.t 63)),
⟨(some 65), (some (64, false)), .mv (.t 6), [], (.new [])⟩,
⟨(some 66), (some (64, false)), .bin .neq (.t 65) (kI 0), [], (.new [])⟩,
sq 67 (.pick (.t 64) (kB true) (.t 66)),
sq 68 (.mv (.t 67)),
⟨(some 69), (some (68, false)), .mv (.t 9), [], (.new [])⟩,
⟨(some 70), (some (68, false)), .bin .neq (.t 69) (kI 9), [], (.new [])⟩,
sq 71 (.pick (.t 68) (kB true) (.t 70)),
sq 72 (.mv (.t 71)),
⟨(some 73), (some (72, false)), .mv (.t 11), [], (.new [])⟩,
⟨(some 74), (some (72, false)), .bin .neq (.t 73) (kI 0), [], (.new [])⟩,
sq 75 (.pick (.t 72) (kB true) (.t 74)),
sq 76 (.mv (.t 75)),
⟨(some 77), (some (76, false)), .mv (.t 13), [], (.new [])⟩,
⟨(some 78), (some (76, false)), .bin .neq (.t 77) (kI 0), [], (.new [])⟩,
sq 79 (.pick (.t 76) (kB true) (.t 78)),
sq 80 (.mv (.t 79)),
⟨(some 81), (some (80, false)), .mv (.t 14), [], (.new [])⟩,
⟨(some 82), (some (80, false)), .bin .neq (.t 81) (kI 0), [], (.new [])⟩,
sq 83 (.pick (.t 80) (kB true) (.t 82)),
sq 84 (.mv (.t 83)),
⟨(some 85), (some (84, false)), .mv (.t 16), [], (.new [])⟩,
⟨(some 86), (some (84, false)), .bin .neq (.t 85) (kI 10), [], (.new [])⟩,
sq 87 (.pick (.t 84) (kB true) (.t 86))]))
 (.cond (.t 87)
 (.seq (.reg [sq 0 (.mv (kB false))])
 .ret)
 .skip))
 (.seq (.sem (.reg [sq 88 (.fieldA 0 (.t 2)),
sq 89 (.fieldA 3 (.t 88)),
sq 90 (.load none (.t 89)),
sq 91 (.bin .eql (.t 90) (kI 1)),
sq 92 (.mv (.t 91)),
⟨(some 93), (some (92, true)), .fieldA 0 (.t 2), [], (.new [])⟩,
⟨(some 94), (some (92, true)), .fieldA 4 (.t 93), [], (.new [])⟩,
⟨(some 95), (some (92, true)), .load none (.t 94), [], (.new [])⟩,
⟨(some 96), (some (92, true)), .bin .eql (.t 95) (kI 1), [], (.new [])⟩,
sq 97 (.pick (.t 92) (.t 96) (kB false)),
sq 98 (.mv (.t 97)),
⟨(some 99), (some (98, true)), .fieldA 0 (.t 2), [], (.new [])⟩,
⟨(some 100), (some (98, true)), .fieldA 5 (.t 99), [], (.new [])⟩,
⟨(some 101), (some (98, true)), .load none (.t 100), [], (.new [])⟩,
⟨(some 102), (some (98, true)), .bin .eql (.t 101) (kI 1), [], (.new [])⟩,
sq 103 (.pick (.t 98) (.t 102) (kB false)),
sq 104 (.mv (.t 103)),
⟨(some 105), (some (104, true)), .fieldA 0 (.t 2), [], (.new [])⟩,
⟨(some 106), (some (104, true)), .fieldA 6 (.t 105), [], (.new [])⟩,
⟨(some 107), (some (104, true)), .load none (.t 106), [], (.new [])⟩,
⟨(some 108), (some (104, true)), .bin .eql (.t 107) (kI 5), [], (.new [])⟩,
sq 109 (.pick (.t 104) (.t 108) (kB false)),
sq 110 (.mv (.t 109)),
⟨(some 111), (some (110, true)), .fieldA 0 (.t 5), [], (.new [])⟩,
⟨(some 112), (some (110, true)), .fieldA 4 (.t 111), [], (.new [])⟩,
⟨(some 113), (some (110, true)), .load none (.t 112), [], (.new [])⟩,
⟨(some 114), (some (110, true)), .bin .eql (.t 113) (kI 2), [], (.new [])⟩,
sq 115 (.pick (.t 110) (.t 114) (kB false)),
sq 116 (.mv (.t 115)),
⟨(some 117), (some (116, true)), .fieldA 0 (.t 5), [], (.new [])⟩,
⟨(some 118), (some (116, true)), .fieldA 5 (.t 117), [], (.new [])⟩,
⟨(some 119), (some (116, true)), .load none (.t 118), [], (.new [])⟩,
⟨(some 120), (some (116, true)), .bin .eql (.t 119) (kI 2), [], (.new [])⟩,
sq 121 (.pick (.t 116) (.t 120) (kB false)),
sq 122 (.mv (.t 121)),
⟨(some 123), (some (122, true)), .mv (.t 10), [], (.new [])⟩,
⟨(some 124), (some (122, true)), .len (.t 123), [], (.new [])⟩,
⟨(some 125), (some (122, true)), .bin .eql (.t 124) (kI 1), [], (.new [])⟩,
sq 126 (.pick (.t 122) (.t 125) (kB false)),
sq 127 (.mv (.t 126)),
⟨(some 128), (some (127, true)), .mv (.t 10), [], (.new [])⟩,
⟨(some 129), (some (127, true)), .indexA 23 (.t 128) (kI 0), [], (.new [])⟩,
⟨(some 130), (some (127, true)), .fieldA 13 (.t 129), [], (.new [])⟩,
⟨(some 131), (some (127, true)), .fieldA 1 (.t 130), [], (.new [])⟩,
⟨(some 132), (some (127, true)), .load none (.t 131), [], (.new [])⟩,
⟨(some 133), (some (127, true)), .bin .eql (.t 132) (kI 1), [], (.new [])⟩,
sq 134 (.pick (.t 127) (.t 133) (kB false)),
sq 135 (.mv (.t 134)),
⟨(some 136), (some (135, true)), .fieldA 0 (.t 12), [], (.new [])⟩,
⟨(some 137), (some (135, true)), .fieldA 4 (.t 136), [], (.new [])⟩,
⟨(some 138), (some (135, true)), .load none (.t 137), [], (.new [])⟩,
⟨(some 139), (some (135, true)), .bin .eql (.t 138) (kI 3), [], (.new [])⟩,
sq 140 (.pick (.t 135) (.t 139) (kB false)),
sq 141 (.mv (.t 140)),
⟨(some 142), (some (141, true)), .fieldA 0 (.t 1), [], (.new [])⟩,
⟨(some 143), (some (141, true)), .load none (.t 142), [], (.new [])⟩,
⟨(some 144), (some (141, true)), .bin .eql (.t 143) (kI 3), [], (.new [])⟩,
sq 145 (.pick (.t 141) (.t 144) (kB false)),
sq 146 (.mv (.t 145)),
⟨(some 147), (some (146, true)), .fieldA 4 (.t 1), [], (.new [])⟩,
⟨(some 148), (some (146, true)), .load none (.t 147), [], (.new [])⟩,
⟨(some 149), (some (146, true)), .len (.t 148), [], (.new [])⟩,
⟨(some 150), (some (146, true)), .bin .eql (.t 149) (kI 0), [], (.new [])⟩,
sq 151 (.pick (.t 146) (.t 150) (kB false)),
sq 152 (.mv (.t 151)),
⟨(some 153), (some (152, true)), .fieldA 5 (.t 1), [], (.new [])⟩,
⟨(some 154), (some (152, true)), .load none (.t 153), [], (.new [])⟩,
⟨(some 155), (some (152, true)), .len (.t 154), [], (.new [])⟩,
⟨(some 156), (some (152, true)), .bin .eql (.t 155) (kI 1), [], (.new [])⟩,
sq 157 (.pick (.t 152) (.t 156) (kB false)),
sq 0 (.mv (.t 157))]))
 .ret))))))))))))⟩
theorem a8_ok : afn Try.prog 8 = some a8.er := by kernel_rfl
theorem F8_ok {r : Bool} (h : F8 = some r) : CallD Try.prog 8 [] [] (tupV [.c (dB r)]) [] := by
 refine callS a8_ok (by simp [a8]) ?_
 rw [F8] at h
 simp only [a8, VW.down, Nat.reduceEqDiff, reduceCtorEq, Nat.reduceAdd, Nat.reduceLeDiff, Nat.reduceLT, Nat.reduceBEq, Nat.reduceSub, EE.down]
 obtain ⟨t1, ht1, h⟩ := bi h
 refine cN [] (F9_ok ht1) trivial ?_
 refine ww ?_
 obtain ⟨t2, ht2, h⟩ := bi h
 refine cN [] (F26_ok ht2) trivial ?_
 refine ww ?_
 obtain ⟨t3, ht3, h⟩ := bi h
 refine cN [] (F25_ok ht3) trivial ?_
 refine ww ?_
 obtain ⟨o4, ho, h⟩ := bi h
 refine cutS (fun s => s = ⟨[(1, .one (.c (.pt 0 0))), (2, .one (.c (.pt 1 0))), (3, .one (.c (dI t3.2.2.2.2.2.2.2))), (4, .one (.c (.pt 2 0))), (5, .one (.c (.pt 3 0))), (6, .one (.c (dI o4.2.2.2.2.2.2)))], [some (.box [dI o4.1, dI o4.2.1, dI t3.2.2.1, dM (o4.2.2.1.map eObject), dM (o4.2.2.2.1.map eObject), dM (o4.2.2.2.2.1.map eChange)]), some (.box [dS ((t3.2.2.2.2.2.2.1).Meta.Kind), dS ((t3.2.2.2.2.2.2.1).Meta.Namespace), dS ((t3.2.2.2.2.2.2.1).Meta.Name), dI ((t3.2.2.2.2.2.2.1).Meta.Uid), dI ((t3.2.2.2.2.2.2.1).Meta.Version), dI ((t3.2.2.2.2.2.2.1).Meta.Generation), dI ((t3.2.2.2.2.2.2.1).Meta.Created), dB ((t3.2.2.2.2.2.2.1).Meta.Deleting), dI ((t3.2.2.2.2.2.2.1).Meta.DeleteAt), dM (((t3.2.2.2.2.2.2.1).Meta.Labels).map eLabel), dM (((t3.2.2.2.2.2.2.1).Meta.Owners).map eOwner), dM (((t3.2.2.2.2.2.2.1).Meta.Finalizers).map eS), dM (((t3.2.2.2.2.2.2.1).Meta.Managers).map eManager), dI ((t3.2.2.2.2.2.2.1).Spec.Kind), dI ((t3.2.2.2.2.2.2.1).Spec.N), dS ((t3.2.2.2.2.2.2.1).Spec.S), dM (((t3.2.2.2.2.2.2.1).Spec.List_).map eTValue), dM (((t3.2.2.2.2.2.2.1).Spec.Fields).map eTField), dI ((t3.2.2.2.2.2.2.1).Status.Kind), dI ((t3.2.2.2.2.2.2.1).Status.N), dS ((t3.2.2.2.2.2.2.1).Status.S), dM (((t3.2.2.2.2.2.2.1).Status.List_).map eTValue), dM (((t3.2.2.2.2.2.2.1).Status.Fields).map eTField)]), some (.box [dS ((t3.2.2.2.2.2.2.1).Meta.Kind), dS ((t3.2.2.2.2.2.2.1).Meta.Namespace), dS ((t3.2.2.2.2.2.2.1).Meta.Name), dI ((t3.2.2.2.2.2.2.1).Meta.Uid), dI ((t3.2.2.2.2.2.2.1).Meta.Version), dI ((t3.2.2.2.2.2.2.1).Meta.Generation), dI ((t3.2.2.2.2.2.2.1).Meta.Created), dB ((t3.2.2.2.2.2.2.1).Meta.Deleting), dI ((t3.2.2.2.2.2.2.1).Meta.DeleteAt), dM (((t3.2.2.2.2.2.2.1).Meta.Labels).map eLabel), dM (((t3.2.2.2.2.2.2.1).Meta.Owners).map eOwner), dM (((t3.2.2.2.2.2.2.1).Meta.Finalizers).map eS), dM (((t3.2.2.2.2.2.2.1).Meta.Managers).map eManager), dI 2, dI 2, dS ((⟨#[]⟩ : ByteArray)), dN, dN, dI ((t3.2.2.2.2.2.2.1).Status.Kind), dI ((t3.2.2.2.2.2.2.1).Status.N), dS ((t3.2.2.2.2.2.2.1).Status.S), dM (((t3.2.2.2.2.2.2.1).Status.List_).map eTValue), dM (((t3.2.2.2.2.2.2.1).Status.Fields).map eTField)]), some (.box [dS ((o4.2.2.2.2.2.1).Meta.Kind), dS ((o4.2.2.2.2.2.1).Meta.Namespace), dS ((o4.2.2.2.2.2.1).Meta.Name), dI ((o4.2.2.2.2.2.1).Meta.Uid), dI ((o4.2.2.2.2.2.1).Meta.Version), dI ((o4.2.2.2.2.2.1).Meta.Generation), dI ((o4.2.2.2.2.2.1).Meta.Created), dB ((o4.2.2.2.2.2.1).Meta.Deleting), dI ((o4.2.2.2.2.2.1).Meta.DeleteAt), dM (((o4.2.2.2.2.2.1).Meta.Labels).map eLabel), dM (((o4.2.2.2.2.2.1).Meta.Owners).map eOwner), dM (((o4.2.2.2.2.2.1).Meta.Finalizers).map eS), dM (((o4.2.2.2.2.2.1).Meta.Managers).map eManager), dI ((o4.2.2.2.2.2.1).Spec.Kind), dI ((o4.2.2.2.2.2.1).Spec.N), dS ((o4.2.2.2.2.2.1).Spec.S), dM (((o4.2.2.2.2.2.1).Spec.List_).map eTValue), dM (((o4.2.2.2.2.2.1).Spec.Fields).map eTField), dI ((o4.2.2.2.2.2.1).Status.Kind), dI ((o4.2.2.2.2.2.1).Status.N), dS ((o4.2.2.2.2.2.1).Status.S), dM (((o4.2.2.2.2.2.1).Status.List_).map eTValue), dM (((o4.2.2.2.2.2.1).Status.Fields).map eTField)])]⟩) ?_ ?_
 ·have h := ho
  clear ho
  refine ww ?_
  obtain ⟨t5, ht5, h⟩ := bi h
  refine callX_gen (as1 := [.agg [dI t3.1, dI t3.2.1, dI t3.2.2.1, dM (t3.2.2.2.1.map eObject), dM (t3.2.2.2.2.1.map eObject), dM (t3.2.2.2.2.2.1.map eChange)], .agg [dS ((t3.2.2.2.2.2.2.1).Meta.Kind), dS ((t3.2.2.2.2.2.2.1).Meta.Namespace), dS ((t3.2.2.2.2.2.2.1).Meta.Name), dI ((t3.2.2.2.2.2.2.1).Meta.Uid), dI ((t3.2.2.2.2.2.2.1).Meta.Version), dI ((t3.2.2.2.2.2.2.1).Meta.Generation), dI ((t3.2.2.2.2.2.2.1).Meta.Created), dB ((t3.2.2.2.2.2.2.1).Meta.Deleting), dI ((t3.2.2.2.2.2.2.1).Meta.DeleteAt), dM (((t3.2.2.2.2.2.2.1).Meta.Labels).map eLabel), dM (((t3.2.2.2.2.2.2.1).Meta.Owners).map eOwner), dM (((t3.2.2.2.2.2.2.1).Meta.Finalizers).map eS), dM (((t3.2.2.2.2.2.2.1).Meta.Managers).map eManager), dI 2, dI 2, dS ((⟨#[]⟩ : ByteArray)), dM [], dM [], dI ((t3.2.2.2.2.2.2.1).Status.Kind), dI ((t3.2.2.2.2.2.2.1).Status.N), dS ((t3.2.2.2.2.2.2.1).Status.S), dM (((t3.2.2.2.2.2.2.1).Status.List_).map eTValue), dM (((t3.2.2.2.2.2.2.1).Status.Fields).map eTField)]]) [(0, .arr 1 23 []), (1, .arr 1 23 []), (2, .arr 1 25 []), (3, .box [dI t3.1, dI t3.2.1, dI t3.2.2.1, .own 0 0 0 0 (some 0), .own 1 0 0 0 (some 0), .own 2 0 0 0 (some 0)])] [none, none, none, some 3, some 4, some 5] [] (F12_ok ht5) ⟨?_, rfl, ?_⟩ ?_ ?_ ?_ ?_ ?_ ?_ ?_ ?_
  · simp only [ZZ.down, Nat.reduceEqDiff, reduceCtorEq, Nat.reduceAdd, Nat.reduceLeDiff, Nat.reduceLT, Nat.reduceBNe, EE.down]
  · simp only [ZZ.down, Nat.reduceEqDiff, reduceCtorEq, Nat.reduceAdd, Nat.reduceLeDiff, Nat.reduceLT, Nat.reduceBNe, EE.down]
  · simp only [ZZ.down, Nat.reduceEqDiff, reduceCtorEq, Nat.reduceAdd, Nat.reduceLeDiff, Nat.reduceLT, Nat.reduceBNe, EE.down]
  · rfl
  · rfl
  · simp [liveAll, A1.live, C.live]
  · rfl
  · decide
  · exact trivial
  refine ww ?_
  cases h
  exact eM [some 3, some 4, some 5, some 9] rfl
 ·rintro _ rfl
  clear ho
  refine ww ?_
  obtain ⟨t6, ht6, h⟩ := bi h
  refine cN [] (F12_ok ht6) trivial ?_
  refine ww ?_
  obtain ⟨t7, ht7, h⟩ := bi h
  refine cN [] (F16_ok ht7) trivial ?_
  refine ww ?_
  obtain ⟨t8, ht8, h⟩ := bi h
  refine cN [] (F27_ok ht8) trivial ?_
  refine ww ?_
  obtain ⟨o9, ho, h⟩ := bi h
  refine cutS (fun s => s = ⟨[(1, .one (.c (.pt 0 0))), (2, .one (.c (.pt 1 0))), (3, .one (.c (dI t3.2.2.2.2.2.2.2))), (5, .one (.c (.pt 2 0))), (6, .one (.c (dI o4.2.2.2.2.2.2))), (9, .one (.c (dI t6.2.2.2.2.2.2.2.2.2.2.2.2.2.2.2.2.2.2.2.2.2.2.2.2.2.2.2.2))), (10, .one (.c (dM (t7.1.map eObject)))), (11, .one (.c (dI t7.2))), (12, .one (.c (.pt 3 0))), (13, .one (.c (dI t8.2.2.2.2.2.2))), (14, .one (.c (dI o9.2.2.2.2)))], [some (.box [dI t8.1, dI o9.1, dI t3.2.2.1, dM (o9.2.1.map eObject), dM (o9.2.2.1.map eObject), dM (o9.2.2.2.1.map eChange)]), some (.box [dS ((t3.2.2.2.2.2.2.1).Meta.Kind), dS ((t3.2.2.2.2.2.2.1).Meta.Namespace), dS ((t3.2.2.2.2.2.2.1).Meta.Name), dI ((t3.2.2.2.2.2.2.1).Meta.Uid), dI ((t3.2.2.2.2.2.2.1).Meta.Version), dI ((t3.2.2.2.2.2.2.1).Meta.Generation), dI ((t3.2.2.2.2.2.2.1).Meta.Created), dB ((t3.2.2.2.2.2.2.1).Meta.Deleting), dI ((t3.2.2.2.2.2.2.1).Meta.DeleteAt), dM (((t3.2.2.2.2.2.2.1).Meta.Labels).map eLabel), dM (((t3.2.2.2.2.2.2.1).Meta.Owners).map eOwner), dM (((t3.2.2.2.2.2.2.1).Meta.Finalizers).map eS), dM (((t3.2.2.2.2.2.2.1).Meta.Managers).map eManager), dI ((t3.2.2.2.2.2.2.1).Spec.Kind), dI ((t3.2.2.2.2.2.2.1).Spec.N), dS ((t3.2.2.2.2.2.2.1).Spec.S), dM (((t3.2.2.2.2.2.2.1).Spec.List_).map eTValue), dM (((t3.2.2.2.2.2.2.1).Spec.Fields).map eTField), dI ((t3.2.2.2.2.2.2.1).Status.Kind), dI ((t3.2.2.2.2.2.2.1).Status.N), dS ((t3.2.2.2.2.2.2.1).Status.S), dM (((t3.2.2.2.2.2.2.1).Status.List_).map eTValue), dM (((t3.2.2.2.2.2.2.1).Status.Fields).map eTField)]), some (.box [dS ((o4.2.2.2.2.2.1).Meta.Kind), dS ((o4.2.2.2.2.2.1).Meta.Namespace), dS ((o4.2.2.2.2.2.1).Meta.Name), dI ((o4.2.2.2.2.2.1).Meta.Uid), dI ((o4.2.2.2.2.2.1).Meta.Version), dI ((o4.2.2.2.2.2.1).Meta.Generation), dI ((o4.2.2.2.2.2.1).Meta.Created), dB ((o4.2.2.2.2.2.1).Meta.Deleting), dI ((o4.2.2.2.2.2.1).Meta.DeleteAt), dM (((o4.2.2.2.2.2.1).Meta.Labels).map eLabel), dM (((o4.2.2.2.2.2.1).Meta.Owners).map eOwner), dM (((o4.2.2.2.2.2.1).Meta.Finalizers).map eS), dM (((o4.2.2.2.2.2.1).Meta.Managers).map eManager), dI ((o4.2.2.2.2.2.1).Spec.Kind), dI ((o4.2.2.2.2.2.1).Spec.N), dS ((o4.2.2.2.2.2.1).Spec.S), dM (((o4.2.2.2.2.2.1).Spec.List_).map eTValue), dM (((o4.2.2.2.2.2.1).Spec.Fields).map eTField), dI ((o4.2.2.2.2.2.1).Status.Kind), dI ((o4.2.2.2.2.2.1).Status.N), dS ((o4.2.2.2.2.2.1).Status.S), dM (((o4.2.2.2.2.2.1).Status.List_).map eTValue), dM (((o4.2.2.2.2.2.1).Status.Fields).map eTField)]), some (.box [dS ((t8.2.2.2.2.2.1).Meta.Kind), dS ((t8.2.2.2.2.2.1).Meta.Namespace), dS ((t8.2.2.2.2.2.1).Meta.Name), dI ((t8.2.2.2.2.2.1).Meta.Uid), dI ((t8.2.2.2.2.2.1).Meta.Version), dI ((t8.2.2.2.2.2.1).Meta.Generation), dI ((t8.2.2.2.2.2.1).Meta.Created), dB ((t8.2.2.2.2.2.1).Meta.Deleting), dI ((t8.2.2.2.2.2.1).Meta.DeleteAt), dM (((t8.2.2.2.2.2.1).Meta.Labels).map eLabel), dM (((t8.2.2.2.2.2.1).Meta.Owners).map eOwner), dM (((t8.2.2.2.2.2.1).Meta.Finalizers).map eS), dM (((t8.2.2.2.2.2.1).Meta.Managers).map eManager), dI ((t8.2.2.2.2.2.1).Spec.Kind), dI ((t8.2.2.2.2.2.1).Spec.N), dS ((t8.2.2.2.2.2.1).Spec.S), dM (((t8.2.2.2.2.2.1).Spec.List_).map eTValue), dM (((t8.2.2.2.2.2.1).Spec.Fields).map eTField), dI ((t8.2.2.2.2.2.1).Status.Kind), dI ((t8.2.2.2.2.2.1).Status.N), dS ((t8.2.2.2.2.2.1).Status.S), dM (((t8.2.2.2.2.2.1).Status.List_).map eTValue), dM (((t8.2.2.2.2.2.1).Status.Fields).map eTField)])]⟩) ?_ ?_
  ·have h := ho
   clear ho
   refine ww ?_
   obtain ⟨t10, ht10, h⟩ := bi h
   refine callX_gen (as1 := [.agg [dI t8.1, dI t8.2.1, dI t3.2.2.1, dM (t8.2.2.1.map eObject), dM (t8.2.2.2.1.map eObject), dM (t8.2.2.2.2.1.map eChange)], .c (dI 2)]) [(10, .arr 1 23 []), (11, .arr 1 23 []), (12, .arr 1 25 []), (0, .box [dI t8.1, dI t8.2.1, dI t3.2.2.1, .own 10 0 0 0 (some 0), .own 11 0 0 0 (some 0), .own 12 0 0 0 (some 0)])] [some 0, some 1, some 2, some 3, some 4, some 5, some 6, some 7, some 8, some 9, none, none, none, some 13] [] (F19_ok ht10) ⟨?_, rfl, ?_⟩ ?_ ?_ ?_ ?_ ?_ ?_ ?_ ?_
   · simp only [ZZ.down, Nat.reduceEqDiff, reduceCtorEq, Nat.reduceAdd, Nat.reduceLeDiff, Nat.reduceLT, Nat.reduceBNe, EE.down]
   · simp only [ZZ.down, Nat.reduceEqDiff, reduceCtorEq, Nat.reduceAdd, Nat.reduceLeDiff, Nat.reduceLT, Nat.reduceBNe, EE.down]
   · simp only [ZZ.down, Nat.reduceEqDiff, reduceCtorEq, Nat.reduceAdd, Nat.reduceLeDiff, Nat.reduceLT, Nat.reduceBNe, EE.down]
   · rfl
   · rfl
   · simp [liveAll, A1.live, C.live]
   · rfl
   · decide
   · exact trivial
   refine ww ?_
   cases h
   exact eM [some 0, some 1, some 3, some 13] rfl
  ·rintro _ rfl
   clear ho
   refine ww ?_
   obtain ⟨t11, ht11, h⟩ := bi h
   refine cN [] (F16_ok ht11) trivial ?_
   refine ww ?_
   obtain ⟨o12, ho, h⟩ := bi h
   refine cutS (fun s => s = ⟨[(1, .one (.c (.pt 0 0))), (2, .one (.c (.pt 1 0))), (5, .one (.c (.pt 2 0))), (10, .one (.c (dM (t7.1.map eObject)))), (12, .one (.c (.pt 3 0))), (87, .one (.c (dB o12)))], [some (.box [dI t8.1, dI o9.1, dI t3.2.2.1, dM (o9.2.1.map eObject), dM (o9.2.2.1.map eObject), dM (o9.2.2.2.1.map eChange)]), some (.box [dS ((t3.2.2.2.2.2.2.1).Meta.Kind), dS ((t3.2.2.2.2.2.2.1).Meta.Namespace), dS ((t3.2.2.2.2.2.2.1).Meta.Name), dI ((t3.2.2.2.2.2.2.1).Meta.Uid), dI ((t3.2.2.2.2.2.2.1).Meta.Version), dI ((t3.2.2.2.2.2.2.1).Meta.Generation), dI ((t3.2.2.2.2.2.2.1).Meta.Created), dB ((t3.2.2.2.2.2.2.1).Meta.Deleting), dI ((t3.2.2.2.2.2.2.1).Meta.DeleteAt), dM (((t3.2.2.2.2.2.2.1).Meta.Labels).map eLabel), dM (((t3.2.2.2.2.2.2.1).Meta.Owners).map eOwner), dM (((t3.2.2.2.2.2.2.1).Meta.Finalizers).map eS), dM (((t3.2.2.2.2.2.2.1).Meta.Managers).map eManager), dI ((t3.2.2.2.2.2.2.1).Spec.Kind), dI ((t3.2.2.2.2.2.2.1).Spec.N), dS ((t3.2.2.2.2.2.2.1).Spec.S), dM (((t3.2.2.2.2.2.2.1).Spec.List_).map eTValue), dM (((t3.2.2.2.2.2.2.1).Spec.Fields).map eTField), dI ((t3.2.2.2.2.2.2.1).Status.Kind), dI ((t3.2.2.2.2.2.2.1).Status.N), dS ((t3.2.2.2.2.2.2.1).Status.S), dM (((t3.2.2.2.2.2.2.1).Status.List_).map eTValue), dM (((t3.2.2.2.2.2.2.1).Status.Fields).map eTField)]), some (.box [dS ((o4.2.2.2.2.2.1).Meta.Kind), dS ((o4.2.2.2.2.2.1).Meta.Namespace), dS ((o4.2.2.2.2.2.1).Meta.Name), dI ((o4.2.2.2.2.2.1).Meta.Uid), dI ((o4.2.2.2.2.2.1).Meta.Version), dI ((o4.2.2.2.2.2.1).Meta.Generation), dI ((o4.2.2.2.2.2.1).Meta.Created), dB ((o4.2.2.2.2.2.1).Meta.Deleting), dI ((o4.2.2.2.2.2.1).Meta.DeleteAt), dM (((o4.2.2.2.2.2.1).Meta.Labels).map eLabel), dM (((o4.2.2.2.2.2.1).Meta.Owners).map eOwner), dM (((o4.2.2.2.2.2.1).Meta.Finalizers).map eS), dM (((o4.2.2.2.2.2.1).Meta.Managers).map eManager), dI ((o4.2.2.2.2.2.1).Spec.Kind), dI ((o4.2.2.2.2.2.1).Spec.N), dS ((o4.2.2.2.2.2.1).Spec.S), dM (((o4.2.2.2.2.2.1).Spec.List_).map eTValue), dM (((o4.2.2.2.2.2.1).Spec.Fields).map eTField), dI ((o4.2.2.2.2.2.1).Status.Kind), dI ((o4.2.2.2.2.2.1).Status.N), dS ((o4.2.2.2.2.2.1).Status.S), dM (((o4.2.2.2.2.2.1).Status.List_).map eTValue), dM (((o4.2.2.2.2.2.1).Status.Fields).map eTField)]), some (.box [dS ((t8.2.2.2.2.2.1).Meta.Kind), dS ((t8.2.2.2.2.2.1).Meta.Namespace), dS ((t8.2.2.2.2.2.1).Meta.Name), dI ((t8.2.2.2.2.2.1).Meta.Uid), dI ((t8.2.2.2.2.2.1).Meta.Version), dI ((t8.2.2.2.2.2.1).Meta.Generation), dI ((t8.2.2.2.2.2.1).Meta.Created), dB ((t8.2.2.2.2.2.1).Meta.Deleting), dI ((t8.2.2.2.2.2.1).Meta.DeleteAt), dM (((t8.2.2.2.2.2.1).Meta.Labels).map eLabel), dM (((t8.2.2.2.2.2.1).Meta.Owners).map eOwner), dM (((t8.2.2.2.2.2.1).Meta.Finalizers).map eS), dM (((t8.2.2.2.2.2.1).Meta.Managers).map eManager), dI ((t8.2.2.2.2.2.1).Spec.Kind), dI ((t8.2.2.2.2.2.1).Spec.N), dS ((t8.2.2.2.2.2.1).Spec.S), dM (((t8.2.2.2.2.2.1).Spec.List_).map eTValue), dM (((t8.2.2.2.2.2.1).Spec.Fields).map eTField), dI ((t8.2.2.2.2.2.1).Status.Kind), dI ((t8.2.2.2.2.2.1).Status.N), dS ((t8.2.2.2.2.2.1).Status.S), dM (((t8.2.2.2.2.2.1).Status.List_).map eTValue), dM (((t8.2.2.2.2.2.1).Status.Fields).map eTField)])]⟩) ?_ ?_
   ·have h := ho
    clear ho
    refine ww ?_
    refine guardSh h (fun g13 h => ?_) (fun g13 h => ?_)
    ·refine ww ?_
     cases h
     exact eM [some 0, some 1, some 2, some 3] rfl
    ·refine ww ?_
     refine guardSh h (fun g14 h => ?_) (fun g14 h => ?_)
     ·refine ww ?_
      cases h
      exact eM [some 0, some 1, some 2, some 3] rfl
     ·refine ww ?_
      refine guardSh h (fun g15 h => ?_) (fun g15 h => ?_)
      ·refine ww ?_
       cases h
       exact eM [some 0, some 1, some 2, some 3] rfl
      ·refine ww ?_
       refine guardSh h (fun g16 h => ?_) (fun g16 h => ?_)
       ·refine ww ?_
        cases h
        exact eM [some 0, some 1, some 2, some 3] rfl
       ·refine ww ?_
        refine guardSh h (fun g17 h => ?_) (fun g17 h => ?_)
        ·refine ww ?_
         cases h
         exact eM [some 0, some 1, some 2, some 3] rfl
        ·refine ww ?_
         refine guardSh h (fun g18 h => ?_) (fun g18 h => ?_)
         ·refine ww ?_
          cases h
          exact eM [some 0, some 1, some 2, some 3] rfl
         ·refine ww ?_
          cases h
          exact eM [some 0, some 1, some 2, some 3] rfl
   ·rintro _ rfl
    clear ho
    refine ww ?_
    refine condBh h (fun c19 h => ?_) (fun c19 h => ?_)
    ·refine ww ?_
     cases h
     exact eF []
    ·refine ww ?_
     obtain ⟨o20, ho, h⟩ := bi h
     refine cutS (fun s => s = ⟨[(0, .one (.c (dB o20)))], []⟩) ?_ ?_
     ·have h := ho
      clear ho
      refine ww ?_
      refine guardSh h (fun g21 h => ?_) (fun g21 h => ?_)
      ·refine ww ?_
       refine guardSh h (fun g22 h => ?_) (fun g22 h => ?_)
       ·refine ww ?_
        refine guardSh h (fun g23 h => ?_) (fun g23 h => ?_)
        ·refine ww ?_
         refine guardSh h (fun g24 h => ?_) (fun g24 h => ?_)
         ·refine ww ?_
          refine guardSh h (fun g25 h => ?_) (fun g25 h => ?_)
          ·refine ww ?_
           refine guardSh h (fun g26 h => ?_) (fun g26 h => ?_)
           ·refine ww ?_
            refine guardSh h (fun g27 h => ?_) (fun g27 h => ?_)
            ·refine ww ?_
             obtain ⟨y28, hy28, h⟩ := bi h
             refine t_idxF (enc := eObject) (xs := t7.1) rfl rfl hy28 rfl ?_
             refine ww ?_
             refine guardSh h (fun g29 h => ?_) (fun g29 h => ?_)
             ·refine ww ?_
              refine guardSh h (fun g30 h => ?_) (fun g30 h => ?_)
              ·refine ww ?_
               refine guardSh h (fun g31 h => ?_) (fun g31 h => ?_)
               ·refine ww ?_
                refine guardSh h (fun g32 h => ?_) (fun g32 h => ?_)
                ·refine ww ?_
                 cases h
                 exact eM [] rfl
                ·refine ww ?_
                 cases h
                 exact eM [] rfl
               ·refine ww ?_
                cases h
                exact eM [] rfl
              ·refine ww ?_
               cases h
               exact eM [] rfl
             ·refine ww ?_
              cases h
              exact eM [] rfl
            ·refine ww ?_
             cases h
             exact eM [] rfl
           ·refine ww ?_
            cases h
            exact eM [] rfl
          ·refine ww ?_
           cases h
           exact eM [] rfl
         ·refine ww ?_
          cases h
          exact eM [] rfl
        ·refine ww ?_
         cases h
         exact eM [] rfl
       ·refine ww ?_
        cases h
        exact eM [] rfl
      ·refine ww ?_
       cases h
       exact eM [] rfl
     ·rintro _ rfl
      clear ho
      refine ww ?_
      cases h
      exact eF []

/- orchestrator/orchestratorref13.Key -/
def F76 (x0 : ByteArray) (x1 : ByteArray) (x2 : ByteArray) : Option (ByteArray) := (catI x0 ((⟨#[47]⟩ : ByteArray))).bind fun s1 => (catI s1 x1).bind fun s2 => (catI s2 ((⟨#[47]⟩ : ByteArray))).bind fun s3 => (catI s3 x2).bind fun s4 => some s4
def a76 : AFn := ⟨14, [(.tmp 6)],
 (.seq (.reg [sq 6 (.mv (kS ⟨#[]⟩))])
 (.seq (.reg [sq 7 (.mv (.t 0)),
sq 8 (.bin .add (.t 7) (kS ⟨#[47]⟩)),
sq 9 (.mv (.t 1)),
sq 10 (.bin .add (.t 8) (.t 9)),
sq 11 (.bin .add (.t 10) (kS ⟨#[47]⟩)),
sq 12 (.mv (.t 2)),
sq 13 (.bin .add (.t 11) (.t 12)),
sq 6 (.mv (.t 13))])
 .ret))⟩
theorem a76_ok : afn Try.prog 76 = some a76.er := by kernel_rfl
theorem F76_ok {x0 : ByteArray} {x1 : ByteArray} {x2 : ByteArray} {r : ByteArray} (h : F76 x0 x1 x2 = some r) : CallD Try.prog 76 [.c (dS x0), .c (dS x1), .c (dS x2)] [] (tupV [.c (dS r)]) [] := by
 refine callS a76_ok (by simp [a76]) ?_
 rw [F76] at h
 simp only [a76, VW.down, Nat.reduceEqDiff, reduceCtorEq, Nat.reduceAdd, Nat.reduceLeDiff, Nat.reduceLT, Nat.reduceBEq, Nat.reduceSub, EE.down]
 obtain ⟨s1, hs1, h⟩ := bi h
 obtain ⟨hle, es1⟩ := cat_some hs1
 refine ⟨hle, ?_⟩
 first | rw [← es1] | subst es1
 refine ww ?_
 obtain ⟨s2, hs2, h⟩ := bi h
 obtain ⟨hle, es2⟩ := cat_some hs2
 refine ⟨hle, ?_⟩
 first | rw [← es2] | subst es2
 refine ww ?_
 obtain ⟨s3, hs3, h⟩ := bi h
 obtain ⟨hle, es3⟩ := cat_some hs3
 refine ⟨hle, ?_⟩
 first | rw [← es3] | subst es3
 refine ww ?_
 obtain ⟨s4, hs4, h⟩ := bi h
 obtain ⟨hle, es4⟩ := cat_some hs4
 refine ⟨hle, ?_⟩
 first | rw [← es4] | subst es4
 refine ww ?_
 cases h
 exact eF []

/- orchestrator/orchestratorref13.KeyOf -/
def F54 (x0 : Meta) : Option (ByteArray) := (F76 x0.Kind x0.Namespace x0.Name).bind fun t1 => some t1
def a54 : AFn := ⟨10, [(.tmp 2)],
 (.seq (.reg [sq 1 (.box (.t 0)),
sq 2 (.mv (kS ⟨#[]⟩))])
 (.seq (.reg [sq 3 (.fieldA 0 (.t 1)),
sq 4 (.load none (.t 3)),
sq 5 (.fieldA 1 (.t 1)),
sq 6 (.load none (.t 5)),
sq 7 (.fieldA 2 (.t 1)),
sq 8 (.load none (.t 7)),
sq 9 (.call 76 [(.t 4), (.t 6), (.t 8)]),
sq 2 (.mv (.t 9))])
 .ret))⟩
theorem a54_ok : afn Try.prog 54 = some a54.er := by kernel_rfl
theorem F54_ok {x0 : Meta} {r : ByteArray} (h : F54 x0 = some r) : CallD Try.prog 54 [.agg [dS x0.Kind, dS x0.Namespace, dS x0.Name, dI x0.Uid, dI x0.Version, dI x0.Generation, dI x0.Created, dB x0.Deleting, dI x0.DeleteAt, dM (x0.Labels.map eLabel), dM (x0.Owners.map eOwner), dM (x0.Finalizers.map eS), dM (x0.Managers.map eManager)]] [] (tupV [.c (dS r)]) [] := by
 refine callS a54_ok (by simp [a54]) ?_
 rw [F54] at h
 simp only [a54, VW.down, Nat.reduceEqDiff, reduceCtorEq, Nat.reduceAdd, Nat.reduceLeDiff, Nat.reduceLT, Nat.reduceBEq, Nat.reduceSub, EE.down]
 obtain ⟨t1, ht1, h⟩ := bi h
 refine cN [] (F76_ok ht1) trivial ?_
 refine ww ?_
 cases h
 exact eF []

/- orchestrator/orchestratorref14.key -/
def F99 (x0 : Object) : Option (ByteArray) := (F54 x0.Meta).bind fun t1 => some t1
def a99 : AFn := ⟨6, [(.tmp 2)],
 (.seq (.reg [sq 1 (.box (.t 0)),
sq 2 (.mv (kS ⟨#[]⟩))])
 (.seq (.reg [sq 3 (.fieldA 0 (.t 1)),
sq 4 (.load (some 13) (.t 3)),
sq 5 (.call 54 [(.t 4)]),
sq 2 (.mv (.t 5))])
 .ret))⟩
theorem a99_ok : afn Try.prog 99 = some a99.er := by kernel_rfl
theorem F99_ok {x0 : Object} {r : ByteArray} (h : F99 x0 = some r) : CallD Try.prog 99 [.agg [dS x0.Meta.Kind, dS x0.Meta.Namespace, dS x0.Meta.Name, dI x0.Meta.Uid, dI x0.Meta.Version, dI x0.Meta.Generation, dI x0.Meta.Created, dB x0.Meta.Deleting, dI x0.Meta.DeleteAt, dM (x0.Meta.Labels.map eLabel), dM (x0.Meta.Owners.map eOwner), dM (x0.Meta.Finalizers.map eS), dM (x0.Meta.Managers.map eManager), dI x0.Spec.Kind, dI x0.Spec.N, dS x0.Spec.S, dM (x0.Spec.List_.map eTValue), dM (x0.Spec.Fields.map eTField), dI x0.Status.Kind, dI x0.Status.N, dS x0.Status.S, dM (x0.Status.List_.map eTValue), dM (x0.Status.Fields.map eTField)]] [] (tupV [.c (dS r)]) [] := by
 refine callS a99_ok (by simp [a99]) ?_
 rw [F99] at h
 simp only [a99, VW.down, Nat.reduceEqDiff, reduceCtorEq, Nat.reduceAdd, Nat.reduceLeDiff, Nat.reduceLT, Nat.reduceBEq, Nat.reduceSub, EE.down]
 obtain ⟨t1, ht1, h⟩ := bi h
 refine cN [] (F54_ok ht1) trivial ?_
 refine ww ?_
 cases h
 exact eF []

/- orchestrator/orchestratorref14.Find -/
def F77_l1 (x1 : ByteArray) : List Object → Nat → Option ((Int) ⊕ (Unit))
  | [], o1_0 => some (Sum.inr (()))
  | xo1 :: xs, o1_0 => (F99 xo1).bind fun t3 => (if t3 = x1 then (some ((o1_0 : Int))).map Sum.inl else F77_l1 x1 xs (o1_0 + 1))
def F77 (x0 : (List Object)) (x1 : ByteArray) : Option (Int) := (((ck (0 ≤ x0.length ∧ x0.length ≤ 4294967290)).bind fun u5 => F77_l1 x1 x0 0 : Option ((Int) ⊕ (Unit))).bind fun o1 => match o1 with | Sum.inl f => some f | Sum.inr po1 => some ((-1)))
def a77 : AFn := ⟨20, [(.tmp 4)],
 (.seq (.reg [sq 4 (.mv (kI 0))])
 (.seq (.seq (.reg [sq 5 (.mv (kI 0))])
 (.sem (.block 0 (.loop (.seq (.seq (.reg [sq 6 (.mv (.t 5)),
sq 7 (.mv (.t 0)),
sq 8 (.len (.t 7)),
sq 9 (.bin .lss (.t 6) (.t 8))])
 (.cond (.t 9)
 .skip
 (.exit 0)))
 (.seq (.block 1 (.seq (.reg [sq 12 (.mv (.t 0)),
sq 13 (.mv (.t 5)),
sq 14 (.indexA 23 (.t 12) (.t 13)),
sq 15 (.load (some 23) (.t 14)),
sq 16 (.call 99 [(.t 15)]),
sq 17 (.mv (.t 1)),
sq 18 (.bin .eql (.t 16) (.t 17))])
 (.cond (.t 18)
 (.seq (.reg [sq 19 (.mv (.t 5)),
sq 4 (.mv (.t 19))])
 .ret)
 .skip)))
 (.reg [sq 10 (.mv (.t 5)),
sq 11 (.bin .add (.t 10) (kI 1)),
sq 5 (.mv (.t 11))])))))))
 (.seq (.reg [sq 4 (.mv (kI (-1)))])
 .ret)))⟩
theorem a77_ok : afn Try.prog 77 = some a77.er := by kernel_rfl
theorem F77_ok {x0 : (List Object)} {x1 : ByteArray} {r : Int} (h : F77 x0 x1 = some r) : CallD Try.prog 77 [.c (dM (x0.map eObject)), .c (dS x1)] [] (tupV [.c (dI r)]) [] := by
 refine callS a77_ok (by simp [a77]) ?_
 rw [F77] at h
 simp only [a77, VW.down, Nat.reduceEqDiff, reduceCtorEq, Nat.reduceAdd, Nat.reduceLeDiff, Nat.reduceLT, Nat.reduceBEq, Nat.reduceSub, EE.down]
 obtain ⟨o1, ho, h⟩ := bi h
 refine cutS (fun s => ∃ po1, o1 = Sum.inr po1 ∧ s = ⟨[], []⟩) ?_ ?_
 ·have h0o1 := h
  have h := ho
  clear ho
  obtain ⟨_, hk, h⟩ := bi h
  have hk := ck_some hk
  refine ww ?_
  refine bL (fun j s => ∃ (o1_0 : Nat), (o1_0 ≤ x0.length ∧ j = x0.length - o1_0) ∧ s = ⟨[(0, .one (.c (dM (x0.map eObject)))), (1, .one (.c (dS x1))), (5, .one (.c (dI ((o1_0 : Int)))))], []⟩ ∧ F77_l1 x1 (x0.drop o1_0) o1_0 = some o1) (x0.length - 0) [] ⟨0, ⟨hk.1, rfl⟩, rfl, h⟩ ?_
  rintro _ _ ⟨o1_0, ⟨hi, rfl⟩, rfl, h⟩
  refine ww ?_
  refine condS (fun c2 => ?_) (fun c2 => ?_)
  ·obtain ⟨xo1, hxo1, hd⟩ := countY (show (o1_0 : Int) < (x0.length : Int) from c2)
   rw [hd, F77_l1] at h
   refine ww ?_
   refine t_idxF (enc := eObject) (xs := x0) rfl rfl hxo1 rfl ?_
   refine ww ?_
   obtain ⟨t3, ht3, h⟩ := bi h
   refine cN [] (F99_ok ht3) trivial ?_
   refine ww ?_
   refine condSh h (fun c4 h => ?_) (fun c4 h => ?_)
   ·refine ww ?_
    obtain ⟨fh0o1, hfh0o1, rfl⟩ := Option.map_eq_some_iff.1 h
    have h := hfh0o1.trans h0o1
    cases h
    exact eF []
   ·refine ww ?_
    rw [wrapN (by omega)]
    exact eL' (x0.length - (o1_0 + 1)) [] ⟨o1_0 + 1, ⟨by omega, rfl⟩, rfl, h⟩ (by omega)
  ·rw [countN (show ¬ ((o1_0 : Int) < (x0.length : Int)) from c2), F77_l1] at h
   refine ww ?_
   cases h
   exact eM [] ⟨_, rfl, rfl⟩
 ·rintro _ ⟨po1, rfl, rfl⟩
  clear ho
  dsimp only at h
  refine ww ?_
  cases h
  exact eF []

/- orchestrator/orchestratorref14.Get -/
def F55 (x0 : TStore) (x1 : ByteArray) : Option (Object × Bool) := (F77 x0.Objects x1).bind fun t1 => (if t1 < 0 then some (((⟨(⟨(⟨#[]⟩ : ByteArray), (⟨#[]⟩ : ByteArray), (⟨#[]⟩ : ByteArray), 0, 0, 0, 0, false, 0, [], [], [], []⟩ : Meta), (⟨0, 0, (⟨#[]⟩ : ByteArray), [], []⟩ : TValue), (⟨0, 0, (⟨#[]⟩ : ByteArray), [], []⟩ : TValue)⟩ : Object), false)) else (rdI x0.Objects t1).bind fun y3 => some ((y3, true)))
def a55 : AFn := ⟨19, [(.cell 4 (some 23)), (.tmp 5)],
 (.seq (.reg [sq 2 (.box (.t 0)),
sq 4 (.zbox [dS ⟨#[]⟩, dS ⟨#[]⟩, dS ⟨#[]⟩, dI 0, dI 0, dI 0, dI 0, dB false, dI 0, dN, dN, dN, dN, dI 0, dI 0, dS ⟨#[]⟩, dN, dN, dI 0, dI 0, dS ⟨#[]⟩, dN, dN]),
sq 5 (.mv (kB false))])
 (.seq (.reg [sq 7 (.fieldA 4 (.t 2)),
sq 8 (.load none (.t 7)),
sq 9 (.mv (.t 1)),
sq 10 (.call 77 [(.t 8), (.t 9)]),
sq 6 (.mv (.t 10))])
 (.seq (.seq (.reg [sq 11 (.mv (.t 6)),
sq 12 (.bin .lss (.t 11) (kI 0))])
 (.cond (.t 12)
 (.seq (.reg [sq 13 (.build [dS ⟨#[]⟩, dS ⟨#[]⟩, dS ⟨#[]⟩, dI 0, dI 0, dI 0, dI 0, dB false, dI 0, dN, dN, dN, dN, dI 0, dI 0, dS ⟨#[]⟩, dN, dN, dI 0, dI 0, dS ⟨#[]⟩, dN, dN] []),
su (.store 23 (.t 4) (.t 13)),
sq 5 (.mv (kB false))])
 .ret)
 .skip))
 (.seq (.reg [sq 14 (.fieldA 4 (.t 2)),
sq 15 (.load none (.t 14)),
sq 16 (.mv (.t 6)),
sq 17 (.indexA 23 (.t 15) (.t 16)),
sq 18 (.load (some 23) (.t 17)),
su (.store 23 (.t 4) (.t 18)),
sq 5 (.mv (kB true))])
 .ret))))⟩
theorem a55_ok : afn Try.prog 55 = some a55.er := by kernel_rfl
theorem F55_ok {x0 : TStore} {x1 : ByteArray} {r : Object × Bool} (h : F55 x0 x1 = some r) : CallD Try.prog 55 [.agg [dI x0.Rev, dI x0.Floor, dI x0.NextUid, dM (x0.Base.map eObject), dM (x0.Objects.map eObject), dM (x0.History.map eChange)], .c (dS x1)] [] (tupV [.agg [dS ((r.1).Meta.Kind), dS ((r.1).Meta.Namespace), dS ((r.1).Meta.Name), dI ((r.1).Meta.Uid), dI ((r.1).Meta.Version), dI ((r.1).Meta.Generation), dI ((r.1).Meta.Created), dB ((r.1).Meta.Deleting), dI ((r.1).Meta.DeleteAt), dM (((r.1).Meta.Labels).map eLabel), dM (((r.1).Meta.Owners).map eOwner), dM (((r.1).Meta.Finalizers).map eS), dM (((r.1).Meta.Managers).map eManager), dI ((r.1).Spec.Kind), dI ((r.1).Spec.N), dS ((r.1).Spec.S), dM (((r.1).Spec.List_).map eTValue), dM (((r.1).Spec.Fields).map eTField), dI ((r.1).Status.Kind), dI ((r.1).Status.N), dS ((r.1).Status.S), dM (((r.1).Status.List_).map eTValue), dM (((r.1).Status.Fields).map eTField)], .c (dB r.2)]) [] := by
 refine callS a55_ok (by simp [a55]) ?_
 rw [F55] at h
 simp only [a55, VW.down, Nat.reduceEqDiff, reduceCtorEq, Nat.reduceAdd, Nat.reduceLeDiff, Nat.reduceLT, Nat.reduceBEq, Nat.reduceSub, EE.down]
 obtain ⟨t1, ht1, h⟩ := bi h
 refine cN [] (F77_ok ht1) trivial ?_
 refine ww ?_
 refine condSh h (fun c2 h => ?_) (fun c2 h => ?_)
 ·refine ww ?_
  cases h
  exact eF []
 ·refine ww ?_
  obtain ⟨y3, hy3, h⟩ := bi h
  refine t_idxF (enc := eObject) (xs := x0.Objects) rfl rfl hy3 rfl ?_
  refine ww ?_
  cases h
  exact eF []

/- orchestrator/orchestratorlaw14.prepared -/
def F28 (x0 : TStore) (x1 : TOp) : Option (Int × Int) := (((if x1.Kind = 2 then (F54 x1.O.Meta).bind fun t3 => some t3 else some x1.Key)).bind fun o1 => (((if x1.Version < 0 then (F55 x0 o1).bind fun t6 => some ((t6.1).Meta.Version) else some x1.Version)).bind fun o4 => (if x1.Kind = 2 then some ((o4, o4)) else some ((x1.O.Meta.Version, o4)))))
def a28 : AFn := ⟨43, [(.cell 4 (some 23)), (.tmp 5)],
 (.seq (.reg [sq 2 (.box (.t 0)),
sq 3 (.box (.t 1)),
sq 4 (.zbox [dS ⟨#[]⟩, dS ⟨#[]⟩, dS ⟨#[]⟩, dI 0, dI 0, dI 0, dI 0, dB false, dI 0, dN, dN, dN, dN, dI 0, dI 0, dS ⟨#[]⟩, dN, dN, dI 0, dI 0, dS ⟨#[]⟩, dN, dN]),
sq 5 (.mv (kI 0))])
 (.seq (.reg [sq 11 (.fieldA 24 (.t 3)),
sq 12 (.load none (.t 11)),
sq 6 (.mv (.t 12))])
 (.seq (.sem (.seq (.reg [sq 13 (.fieldA 0 (.t 3)),
sq 14 (.load none (.t 13)),
sq 15 (.bin .eql (.t 14) (kI 2))])
 (.cond (.t 15)
 (.reg [sq 16 (.fieldA 1 (.t 3)),
sq 17 (.fieldA 0 (.t 16)),
sq 18 (.load (some 13) (.t 17)),
sq 19 (.call 54 [(.t 18)]),
sq 6 (.mv (.t 19))])
 .skip)))
 (.seq (.reg [sq 20 (.fieldA 25 (.t 3)),
sq 21 (.load none (.t 20)),
sq 7 (.mv (.t 21))])
 (.seq (.sem (.seq (.reg [sq 22 (.mv (.t 7)),
sq 23 (.bin .lss (.t 22) (kI 0))])
 (.cond (.t 23)
 (.seq (.reg [sq 25 (.load (some 6) (.t 2)),
sq 26 (.mv (.t 6)),
sq 27 (.call 55 [(.t 25), (.t 26)]),
sq 24 (.mv (.t 27)),
sq 28 (.ext (.t 24) 0),
sq 29 (.ext (.t 24) 1),
sq 8 (.zbox [dS ⟨#[]⟩, dS ⟨#[]⟩, dS ⟨#[]⟩, dI 0, dI 0, dI 0, dI 0, dB false, dI 0, dN, dN, dN, dN, dI 0, dI 0, dS ⟨#[]⟩, dN, dN, dI 0, dI 0, dS ⟨#[]⟩, dN, dN]),
su (.store 23 (.t 8) (.t 28)),
sq 9 (.mv (.t 29))])
 (.reg [sq 30 (.fieldA 0 (.t 8)),
sq 31 (.fieldA 4 (.t 30)),
sq 32 (.load none (.t 31)),
sq 7 (.mv (.t 32))]))
 .skip)))
 (.seq (.reg [sq 33 (.fieldA 1 (.t 3)),
sq 34 (.load (some 23) (.t 33)),
sq 10 (.zbox [dS ⟨#[]⟩, dS ⟨#[]⟩, dS ⟨#[]⟩, dI 0, dI 0, dI 0, dI 0, dB false, dI 0, dN, dN, dN, dN, dI 0, dI 0, dS ⟨#[]⟩, dN, dN, dI 0, dI 0, dS ⟨#[]⟩, dN, dN]),
su (.store 23 (.t 10) (.t 34))])
 (.seq (.seq (.reg [sq 35 (.fieldA 0 (.t 3)),
sq 36 (.load none (.t 35)),
sq 37 (.bin .eql (.t 36) (kI 2))])
 (.cond (.t 37)
 (.reg [sq 38 (.mv (.t 7)),
sq 39 (.fieldA 0 (.t 10)),
sq 40 (.fieldA 4 (.t 39)),
⟨none, none, .store 1 (.t 40) (.t 38), [], (.lone [10, 39])⟩])
 .skip))
 (.seq (.reg [sq 41 (.load (some 23) (.t 10)),
sq 42 (.mv (.t 7)),
su (.store 23 (.t 4) (.t 41)),
sq 5 (.mv (.t 42))])
 .ret))))))))⟩
theorem a28_ok : afn Try.prog 28 = some a28.er := by kernel_rfl
theorem F28_ok {x0 : TStore} {x1 : TOp} {r : Int × Int} (h : F28 x0 x1 = some r) : CallD Try.prog 28 [.agg [dI x0.Rev, dI x0.Floor, dI x0.NextUid, dM (x0.Base.map eObject), dM (x0.Objects.map eObject), dM (x0.History.map eChange)], .agg [dI x1.Kind, dS x1.O.Meta.Kind, dS x1.O.Meta.Namespace, dS x1.O.Meta.Name, dI x1.O.Meta.Uid, dI x1.O.Meta.Version, dI x1.O.Meta.Generation, dI x1.O.Meta.Created, dB x1.O.Meta.Deleting, dI x1.O.Meta.DeleteAt, dM (x1.O.Meta.Labels.map eLabel), dM (x1.O.Meta.Owners.map eOwner), dM (x1.O.Meta.Finalizers.map eS), dM (x1.O.Meta.Managers.map eManager), dI x1.O.Spec.Kind, dI x1.O.Spec.N, dS x1.O.Spec.S, dM (x1.O.Spec.List_.map eTValue), dM (x1.O.Spec.Fields.map eTField), dI x1.O.Status.Kind, dI x1.O.Status.N, dS x1.O.Status.S, dM (x1.O.Status.List_.map eTValue), dM (x1.O.Status.Fields.map eTField), dS x1.Key, dI x1.Version, dI x1.Now, dI x1.Rev]] [] (tupV [.agg [dS x1.O.Meta.Kind, dS x1.O.Meta.Namespace, dS x1.O.Meta.Name, dI x1.O.Meta.Uid, dI r.1, dI x1.O.Meta.Generation, dI x1.O.Meta.Created, dB x1.O.Meta.Deleting, dI x1.O.Meta.DeleteAt, dM (x1.O.Meta.Labels.map eLabel), dM (x1.O.Meta.Owners.map eOwner), dM (x1.O.Meta.Finalizers.map eS), dM (x1.O.Meta.Managers.map eManager), dI x1.O.Spec.Kind, dI x1.O.Spec.N, dS x1.O.Spec.S, dM (x1.O.Spec.List_.map eTValue), dM (x1.O.Spec.Fields.map eTField), dI x1.O.Status.Kind, dI x1.O.Status.N, dS x1.O.Status.S, dM (x1.O.Status.List_.map eTValue), dM (x1.O.Status.Fields.map eTField)], .c (dI r.2)]) [] := by
 refine callS a28_ok (by simp [a28]) ?_
 rw [F28] at h
 simp only [a28, VW.down, Nat.reduceEqDiff, reduceCtorEq, Nat.reduceAdd, Nat.reduceLeDiff, Nat.reduceLT, Nat.reduceBEq, Nat.reduceSub, EE.down]
 obtain ⟨o1, ho, h⟩ := bi h
 refine cutS (fun s => s = ⟨[(2, .one (.c (.pt 0 0))), (3, .one (.c (.pt 1 0))), (4, .one (.c (.pt 2 0))), (6, .one (.c (dS o1)))], [some (.box [dI x0.Rev, dI x0.Floor, dI x0.NextUid, dM (x0.Base.map eObject), dM (x0.Objects.map eObject), dM (x0.History.map eChange)]), some (.box [dI x1.Kind, dS x1.O.Meta.Kind, dS x1.O.Meta.Namespace, dS x1.O.Meta.Name, dI x1.O.Meta.Uid, dI x1.O.Meta.Version, dI x1.O.Meta.Generation, dI x1.O.Meta.Created, dB x1.O.Meta.Deleting, dI x1.O.Meta.DeleteAt, dM (x1.O.Meta.Labels.map eLabel), dM (x1.O.Meta.Owners.map eOwner), dM (x1.O.Meta.Finalizers.map eS), dM (x1.O.Meta.Managers.map eManager), dI x1.O.Spec.Kind, dI x1.O.Spec.N, dS x1.O.Spec.S, dM (x1.O.Spec.List_.map eTValue), dM (x1.O.Spec.Fields.map eTField), dI x1.O.Status.Kind, dI x1.O.Status.N, dS x1.O.Status.S, dM (x1.O.Status.List_.map eTValue), dM (x1.O.Status.Fields.map eTField), dS x1.Key, dI x1.Version, dI x1.Now, dI x1.Rev]), some (.box [dS ((⟨#[]⟩ : ByteArray)), dS ((⟨#[]⟩ : ByteArray)), dS ((⟨#[]⟩ : ByteArray)), dI 0, dI 0, dI 0, dI 0, dB false, dI 0, dN, dN, dN, dN, dI 0, dI 0, dS ((⟨#[]⟩ : ByteArray)), dN, dN, dI 0, dI 0, dS ((⟨#[]⟩ : ByteArray)), dN, dN])]⟩) ?_ ?_
 ·have h := ho
  clear ho
  refine ww ?_
  refine condSh h (fun c2 h => ?_) (fun c2 h => ?_)
  ·refine ww ?_
   obtain ⟨t3, ht3, h⟩ := bi h
   refine cN [] (F54_ok ht3) trivial ?_
   refine ww ?_
   cases h
   exact eM [some 0, some 1, some 2] rfl
  ·refine ww ?_
   cases h
   exact eM [some 0, some 1, some 2] rfl
 ·rintro _ rfl
  clear ho
  refine ww ?_
  obtain ⟨o4, ho, h⟩ := bi h
  refine cutS (fun s => s = ⟨[(3, .one (.c (.pt 0 0))), (4, .one (.c (.pt 1 0))), (7, .one (.c (dI o4)))], [some (.box [dI x1.Kind, dS x1.O.Meta.Kind, dS x1.O.Meta.Namespace, dS x1.O.Meta.Name, dI x1.O.Meta.Uid, dI x1.O.Meta.Version, dI x1.O.Meta.Generation, dI x1.O.Meta.Created, dB x1.O.Meta.Deleting, dI x1.O.Meta.DeleteAt, dM (x1.O.Meta.Labels.map eLabel), dM (x1.O.Meta.Owners.map eOwner), dM (x1.O.Meta.Finalizers.map eS), dM (x1.O.Meta.Managers.map eManager), dI x1.O.Spec.Kind, dI x1.O.Spec.N, dS x1.O.Spec.S, dM (x1.O.Spec.List_.map eTValue), dM (x1.O.Spec.Fields.map eTField), dI x1.O.Status.Kind, dI x1.O.Status.N, dS x1.O.Status.S, dM (x1.O.Status.List_.map eTValue), dM (x1.O.Status.Fields.map eTField), dS x1.Key, dI x1.Version, dI x1.Now, dI x1.Rev]), some (.box [dS ((⟨#[]⟩ : ByteArray)), dS ((⟨#[]⟩ : ByteArray)), dS ((⟨#[]⟩ : ByteArray)), dI 0, dI 0, dI 0, dI 0, dB false, dI 0, dN, dN, dN, dN, dI 0, dI 0, dS ((⟨#[]⟩ : ByteArray)), dN, dN, dI 0, dI 0, dS ((⟨#[]⟩ : ByteArray)), dN, dN])]⟩) ?_ ?_
  ·have h := ho
   clear ho
   refine ww ?_
   refine condSh h (fun c5 h => ?_) (fun c5 h => ?_)
   ·refine ww ?_
    obtain ⟨t6, ht6, h⟩ := bi h
    refine cN [] (F55_ok ht6) trivial ?_
    refine ww ?_
    cases h
    exact eM [some 1, some 2] rfl
   ·refine ww ?_
    cases h
    exact eM [some 1, some 2] rfl
  ·rintro _ rfl
   clear ho
   refine ww ?_
   refine condSh h (fun c7 h => ?_) (fun c7 h => ?_)
   ·refine ww ?_
    cases h
    exact eF []
   ·refine ww ?_
    cases h
    exact eF []

/- orchestrator/orchestratorlaw14.step -/
def F10 (x0 : TStore) (x1 : TOp) : Option (Int × Int × Int × (List Object) × (List Object) × (List Change) × Object × Int) := (F28 x0 x1).bind fun t1 => (if x1.Kind = 1 then (F25 x0 ((⟨(⟨x1.O.Meta.Kind, x1.O.Meta.Namespace, x1.O.Meta.Name, x1.O.Meta.Uid, t1.1, x1.O.Meta.Generation, x1.O.Meta.Created, x1.O.Meta.Deleting, x1.O.Meta.DeleteAt, x1.O.Meta.Labels, x1.O.Meta.Owners, x1.O.Meta.Finalizers, x1.O.Meta.Managers⟩ : Meta), x1.O.Spec, x1.O.Status⟩ : Object)) x1.Now).bind fun t3 => some ((t3.1, t3.2.1, t3.2.2.1, t3.2.2.2.1, t3.2.2.2.2.1, t3.2.2.2.2.2.1, (⟨(⟨(t3.2.2.2.2.2.2.1).Meta.Kind, (t3.2.2.2.2.2.2.1).Meta.Namespace, (t3.2.2.2.2.2.2.1).Meta.Name, (t3.2.2.2.2.2.2.1).Meta.Uid, (t3.2.2.2.2.2.2.1).Meta.Version, (t3.2.2.2.2.2.2.1).Meta.Generation, (t3.2.2.2.2.2.2.1).Meta.Created, (t3.2.2.2.2.2.2.1).Meta.Deleting, (t3.2.2.2.2.2.2.1).Meta.DeleteAt, (t3.2.2.2.2.2.2.1).Meta.Labels, (t3.2.2.2.2.2.2.1).Meta.Owners, (t3.2.2.2.2.2.2.1).Meta.Finalizers, (t3.2.2.2.2.2.2.1).Meta.Managers⟩ : Meta), (⟨(t3.2.2.2.2.2.2.1).Spec.Kind, (t3.2.2.2.2.2.2.1).Spec.N, (t3.2.2.2.2.2.2.1).Spec.S, (t3.2.2.2.2.2.2.1).Spec.List_, (t3.2.2.2.2.2.2.1).Spec.Fields⟩ : TValue), (⟨(t3.2.2.2.2.2.2.1).Status.Kind, (t3.2.2.2.2.2.2.1).Status.N, (t3.2.2.2.2.2.2.1).Status.S, (t3.2.2.2.2.2.2.1).Status.List_, (t3.2.2.2.2.2.2.1).Status.Fields⟩ : TValue)⟩ : Object), t3.2.2.2.2.2.2.2)) else (if x1.Kind = 2 then (F12 x0 ((⟨(⟨x1.O.Meta.Kind, x1.O.Meta.Namespace, x1.O.Meta.Name, x1.O.Meta.Uid, t1.1, x1.O.Meta.Generation, x1.O.Meta.Created, x1.O.Meta.Deleting, x1.O.Meta.DeleteAt, x1.O.Meta.Labels, x1.O.Meta.Owners, x1.O.Meta.Finalizers, x1.O.Meta.Managers⟩ : Meta), x1.O.Spec, x1.O.Status⟩ : Object))).bind fun t5 => some ((t5.1, t5.2.1, x0.NextUid, t5.2.2.1, t5.2.2.2.1, t5.2.2.2.2.1, (⟨(⟨t5.2.2.2.2.2.1, t5.2.2.2.2.2.2.1, t5.2.2.2.2.2.2.2.1, t5.2.2.2.2.2.2.2.2.1, t5.2.2.2.2.2.2.2.2.2.1, t5.2.2.2.2.2.2.2.2.2.2.1, t5.2.2.2.2.2.2.2.2.2.2.2.1, t5.2.2.2.2.2.2.2.2.2.2.2.2.1, t5.2.2.2.2.2.2.2.2.2.2.2.2.2.1, t5.2.2.2.2.2.2.2.2.2.2.2.2.2.2.1, t5.2.2.2.2.2.2.2.2.2.2.2.2.2.2.2.1, t5.2.2.2.2.2.2.2.2.2.2.2.2.2.2.2.2.1, t5.2.2.2.2.2.2.2.2.2.2.2.2.2.2.2.2.2.1⟩ : Meta), (⟨t5.2.2.2.2.2.2.2.2.2.2.2.2.2.2.2.2.2.2.1, t5.2.2.2.2.2.2.2.2.2.2.2.2.2.2.2.2.2.2.2.1, t5.2.2.2.2.2.2.2.2.2.2.2.2.2.2.2.2.2.2.2.2.1, t5.2.2.2.2.2.2.2.2.2.2.2.2.2.2.2.2.2.2.2.2.2.1, t5.2.2.2.2.2.2.2.2.2.2.2.2.2.2.2.2.2.2.2.2.2.2.1⟩ : TValue), (⟨t5.2.2.2.2.2.2.2.2.2.2.2.2.2.2.2.2.2.2.2.2.2.2.2.1, t5.2.2.2.2.2.2.2.2.2.2.2.2.2.2.2.2.2.2.2.2.2.2.2.2.1, t5.2.2.2.2.2.2.2.2.2.2.2.2.2.2.2.2.2.2.2.2.2.2.2.2.2.1, t5.2.2.2.2.2.2.2.2.2.2.2.2.2.2.2.2.2.2.2.2.2.2.2.2.2.2.1, t5.2.2.2.2.2.2.2.2.2.2.2.2.2.2.2.2.2.2.2.2.2.2.2.2.2.2.2.1⟩ : TValue)⟩ : Object), t5.2.2.2.2.2.2.2.2.2.2.2.2.2.2.2.2.2.2.2.2.2.2.2.2.2.2.2.2)) else (if x1.Kind = 3 then (F27 x0 x1.Key t1.2).bind fun t7 => some ((t7.1, t7.2.1, x0.NextUid, t7.2.2.1, t7.2.2.2.1, t7.2.2.2.2.1, (⟨(⟨(t7.2.2.2.2.2.1).Meta.Kind, (t7.2.2.2.2.2.1).Meta.Namespace, (t7.2.2.2.2.2.1).Meta.Name, (t7.2.2.2.2.2.1).Meta.Uid, (t7.2.2.2.2.2.1).Meta.Version, (t7.2.2.2.2.2.1).Meta.Generation, (t7.2.2.2.2.2.1).Meta.Created, (t7.2.2.2.2.2.1).Meta.Deleting, (t7.2.2.2.2.2.1).Meta.DeleteAt, (t7.2.2.2.2.2.1).Meta.Labels, (t7.2.2.2.2.2.1).Meta.Owners, (t7.2.2.2.2.2.1).Meta.Finalizers, (t7.2.2.2.2.2.1).Meta.Managers⟩ : Meta), (⟨(t7.2.2.2.2.2.1).Spec.Kind, (t7.2.2.2.2.2.1).Spec.N, (t7.2.2.2.2.2.1).Spec.S, (t7.2.2.2.2.2.1).Spec.List_, (t7.2.2.2.2.2.1).Spec.Fields⟩ : TValue), (⟨(t7.2.2.2.2.2.1).Status.Kind, (t7.2.2.2.2.2.1).Status.N, (t7.2.2.2.2.2.1).Status.S, (t7.2.2.2.2.2.1).Status.List_, (t7.2.2.2.2.2.1).Status.Fields⟩ : TValue)⟩ : Object), t7.2.2.2.2.2.2)) else (F19 x0 x1.Rev).bind fun t8 => some ((x0.Rev, t8.1, x0.NextUid, t8.2.1, t8.2.2.1, t8.2.2.2.1, (⟨(⟨(⟨#[]⟩ : ByteArray), (⟨#[]⟩ : ByteArray), (⟨#[]⟩ : ByteArray), 0, 0, 0, 0, false, 0, [], [], [], []⟩ : Meta), (⟨0, 0, (⟨#[]⟩ : ByteArray), [], []⟩ : TValue), (⟨0, 0, (⟨#[]⟩ : ByteArray), [], []⟩ : TValue)⟩ : Object), t8.2.2.2.2)))))
def a10 : AFn := ⟨57, [(.cell 4 (some 6)), (.cell 5 (some 23)), (.tmp 6)],
 (.seq (.reg [sq 2 (.box (.t 0)),
sq 3 (.box (.t 1)),
sq 4 (.zbox [dI 0, dI 0, dI 0, dN, dN, dN]),
sq 5 (.zbox [dS ⟨#[]⟩, dS ⟨#[]⟩, dS ⟨#[]⟩, dI 0, dI 0, dI 0, dI 0, dB false, dI 0, dN, dN, dN, dN, dI 0, dI 0, dS ⟨#[]⟩, dN, dN, dI 0, dI 0, dS ⟨#[]⟩, dN, dN]),
sq 6 (.mv (kI 0))])
 (.seq (.reg [sq 12 (.load (some 6) (.t 2)),
sq 13 (.load (some 28) (.t 3)),
sq 14 (.call 28 [(.t 12), (.t 13)]),
sq 11 (.mv (.t 14)),
sq 15 (.ext (.t 11) 0),
sq 16 (.ext (.t 11) 1),
sq 7 (.zbox [dS ⟨#[]⟩, dS ⟨#[]⟩, dS ⟨#[]⟩, dI 0, dI 0, dI 0, dI 0, dB false, dI 0, dN, dN, dN, dN, dI 0, dI 0, dS ⟨#[]⟩, dN, dN, dI 0, dI 0, dS ⟨#[]⟩, dN, dN]),
su (.store 23 (.t 7) (.t 15)),
sq 8 (.mv (.t 16))])
 (.seq (.seq (.reg [sq 17 (.fieldA 0 (.t 3)),
sq 18 (.load none (.t 17))])
 (.block 0 (.seq (.reg [sq 20 (.bin .eql (.t 18) (kI 1)),
sq 19 (.mv (.t 20))])
 (.cond (.t 19)
 (.seq (.reg [sq 21 (.load (some 6) (.t 2)),
sq 22 (.load (some 23) (.t 7)),
sq 23 (.fieldA 26 (.t 3)),
sq 24 (.load none (.t 23)),
sq 25 (.call 25 [(.t 21), (.t 22), (.t 24)]),
sq 26 (.ext (.t 25) 0),
sq 27 (.ext (.t 25) 1),
sq 28 (.ext (.t 25) 2),
su (.store 6 (.t 4) (.t 26)),
su (.store 23 (.t 5) (.t 27)),
sq 6 (.mv (.t 28))])
 .ret)
 (.seq (.reg [sq 30 (.bin .eql (.t 18) (kI 2)),
sq 29 (.mv (.t 30))])
 (.cond (.t 29)
 (.seq (.reg [sq 31 (.load (some 6) (.t 2)),
sq 32 (.load (some 23) (.t 7)),
sq 33 (.call 12 [(.t 31), (.t 32)]),
sq 34 (.ext (.t 33) 0),
sq 35 (.ext (.t 33) 1),
sq 36 (.ext (.t 33) 2),
su (.store 6 (.t 4) (.t 34)),
su (.store 23 (.t 5) (.t 35)),
sq 6 (.mv (.t 36))])
 .ret)
 (.seq (.reg [sq 38 (.bin .eql (.t 18) (kI 3)),
sq 37 (.mv (.t 38))])
 (.cond (.t 37)
 (.seq (.reg [sq 39 (.load (some 6) (.t 2)),
sq 40 (.fieldA 24 (.t 3)),
sq 41 (.load none (.t 40)),
sq 42 (.mv (.t 8)),
sq 43 (.call 27 [(.t 39), (.t 41), (.t 42)]),
sq 44 (.ext (.t 43) 0),
sq 45 (.ext (.t 43) 1),
sq 46 (.ext (.t 43) 2),
su (.store 6 (.t 4) (.t 44)),
su (.store 23 (.t 5) (.t 45)),
sq 6 (.mv (.t 46))])
 .ret)
 .skip))))))))
 (.seq (.reg [sq 48 (.load (some 6) (.t 2)),
sq 49 (.fieldA 27 (.t 3)),
sq 50 (.load none (.t 49)),
sq 51 (.call 19 [(.t 48), (.t 50)]),
sq 47 (.mv (.t 51)),
sq 52 (.ext (.t 47) 0),
sq 53 (.ext (.t 47) 1),
sq 9 (.zbox [dI 0, dI 0, dI 0, dN, dN, dN]),
su (.store 6 (.t 9) (.t 52)),
sq 10 (.mv (.t 53))])
 (.seq (.reg [sq 54 (.load (some 6) (.t 9)),
sq 55 (.build [dS ⟨#[]⟩, dS ⟨#[]⟩, dS ⟨#[]⟩, dI 0, dI 0, dI 0, dI 0, dB false, dI 0, dN, dN, dN, dN, dI 0, dI 0, dS ⟨#[]⟩, dN, dN, dI 0, dI 0, dS ⟨#[]⟩, dN, dN] []),
sq 56 (.mv (.t 10)),
su (.store 6 (.t 4) (.t 54)),
su (.store 23 (.t 5) (.t 55)),
sq 6 (.mv (.t 56))])
 .ret)))))⟩
theorem a10_ok : afn Try.prog 10 = some a10.er := by kernel_rfl
theorem F10_ok {x0 : TStore} {x1 : TOp} {r : Int × Int × Int × (List Object) × (List Object) × (List Change) × Object × Int} (h : F10 x0 x1 = some r) : CallD Try.prog 10 [.agg [dI x0.Rev, dI x0.Floor, dI x0.NextUid, dM (x0.Base.map eObject), dM (x0.Objects.map eObject), dM (x0.History.map eChange)], .agg [dI x1.Kind, dS x1.O.Meta.Kind, dS x1.O.Meta.Namespace, dS x1.O.Meta.Name, dI x1.O.Meta.Uid, dI x1.O.Meta.Version, dI x1.O.Meta.Generation, dI x1.O.Meta.Created, dB x1.O.Meta.Deleting, dI x1.O.Meta.DeleteAt, dM (x1.O.Meta.Labels.map eLabel), dM (x1.O.Meta.Owners.map eOwner), dM (x1.O.Meta.Finalizers.map eS), dM (x1.O.Meta.Managers.map eManager), dI x1.O.Spec.Kind, dI x1.O.Spec.N, dS x1.O.Spec.S, dM (x1.O.Spec.List_.map eTValue), dM (x1.O.Spec.Fields.map eTField), dI x1.O.Status.Kind, dI x1.O.Status.N, dS x1.O.Status.S, dM (x1.O.Status.List_.map eTValue), dM (x1.O.Status.Fields.map eTField), dS x1.Key, dI x1.Version, dI x1.Now, dI x1.Rev]] [] (tupV [.agg [dI r.1, dI r.2.1, dI r.2.2.1, .own 0 0 0 (r.2.2.2.1.length) none, .own 1 0 0 (r.2.2.2.2.1.length) none, .own 2 0 0 (r.2.2.2.2.2.1.length) none], .agg [dS ((r.2.2.2.2.2.2.1).Meta.Kind), dS ((r.2.2.2.2.2.2.1).Meta.Namespace), dS ((r.2.2.2.2.2.2.1).Meta.Name), dI ((r.2.2.2.2.2.2.1).Meta.Uid), dI ((r.2.2.2.2.2.2.1).Meta.Version), dI ((r.2.2.2.2.2.2.1).Meta.Generation), dI ((r.2.2.2.2.2.2.1).Meta.Created), dB ((r.2.2.2.2.2.2.1).Meta.Deleting), dI ((r.2.2.2.2.2.2.1).Meta.DeleteAt), dM (((r.2.2.2.2.2.2.1).Meta.Labels).map eLabel), dM (((r.2.2.2.2.2.2.1).Meta.Owners).map eOwner), dM (((r.2.2.2.2.2.2.1).Meta.Finalizers).map eS), dM (((r.2.2.2.2.2.2.1).Meta.Managers).map eManager), dI ((r.2.2.2.2.2.2.1).Spec.Kind), dI ((r.2.2.2.2.2.2.1).Spec.N), dS ((r.2.2.2.2.2.2.1).Spec.S), dM (((r.2.2.2.2.2.2.1).Spec.List_).map eTValue), dM (((r.2.2.2.2.2.2.1).Spec.Fields).map eTField), dI ((r.2.2.2.2.2.2.1).Status.Kind), dI ((r.2.2.2.2.2.2.1).Status.N), dS ((r.2.2.2.2.2.2.1).Status.S), dM (((r.2.2.2.2.2.2.1).Status.List_).map eTValue), dM (((r.2.2.2.2.2.2.1).Status.Fields).map eTField)], .c (dI r.2.2.2.2.2.2.2)]) [some (.arr 0 23 (r.2.2.2.1.map eObject)), some (.arr 0 23 (r.2.2.2.2.1.map eObject)), some (.arr 0 25 (r.2.2.2.2.2.1.map eChange))] := by
 refine callS a10_ok (by simp [a10]) ?_
 rw [F10] at h
 simp only [a10, VW.down, Nat.reduceEqDiff, reduceCtorEq, Nat.reduceAdd, Nat.reduceLeDiff, Nat.reduceLT, Nat.reduceBEq, Nat.reduceSub, EE.down]
 obtain ⟨t1, ht1, h⟩ := bi h
 refine cN [] (F28_ok ht1) trivial ?_
 refine ww ?_
 refine condSh h (fun c2 h => ?_) (fun c2 h => ?_)
 ·refine ww ?_
  obtain ⟨t3, ht3, h⟩ := bi h
  refine cN [] (F25_ok ht3) trivial ?_
  refine ww ?_
  cases h
  exact eF [some 5, some 6, some 7]
 ·refine ww ?_
  refine condSh h (fun c4 h => ?_) (fun c4 h => ?_)
  ·refine ww ?_
   obtain ⟨t5, ht5, h⟩ := bi h
   refine cN [] (F12_ok ht5) trivial ?_
   refine ww ?_
   cases h
   exact eF [some 5, some 6, some 7]
  ·refine ww ?_
   refine condSh h (fun c6 h => ?_) (fun c6 h => ?_)
   ·refine ww ?_
    obtain ⟨t7, ht7, h⟩ := bi h
    refine cN [] (F27_ok ht7) trivial ?_
    refine ww ?_
    cases h
    exact eF [some 5, some 6, some 7]
   ·refine ww ?_
    obtain ⟨t8, ht8, h⟩ := bi h
    refine cN [] (F19_ok ht8) trivial ?_
    refine ww ?_
    cases h
    exact eF [some 5, some 6, some 7]

/- orchestrator/orchestratorref13.SameStrings -/
def F78_l2 (x1 : (List ByteArray)) : List ByteArray → Nat → Option ((Bool) ⊕ (Unit))
  | [], o2_0 => some (Sum.inr (()))
  | xo2 :: xs, o2_0 => (rdI x1 ((o2_0 : Int))).bind fun y4 => (if ¬ (xo2 = y4) then (some false).map Sum.inl else F78_l2 x1 xs (o2_0 + 1))
def F78 (x0 : (List ByteArray)) (x1 : (List ByteArray)) : Option (Bool) := (if ¬ ((x0.length : Int) = (x1.length : Int)) then some false else (((ck (0 ≤ x0.length ∧ x0.length ≤ 4294967290)).bind fun u6 => F78_l2 x1 x0 0 : Option ((Bool) ⊕ (Unit))).bind fun o2 => match o2 with | Sum.inl f => some f | Sum.inr po2 => some true))
def a78 : AFn := ⟨26, [(.tmp 4)],
 (.seq (.reg [sq 4 (.mv (kB false))])
 (.seq (.seq (.reg [sq 6 (.mv (.t 0)),
sq 7 (.len (.t 6)),
sq 8 (.mv (.t 1)),
sq 9 (.len (.t 8)),
sq 10 (.bin .neq (.t 7) (.t 9))])
 (.cond (.t 10)
 (.seq (.reg [sq 4 (.mv (kB false))])
 .ret)
 .skip))
 (.seq (.seq (.reg [sq 5 (.mv (kI 0))])
 (.sem (.block 0 (.loop (.seq (.seq (.reg [sq 11 (.mv (.t 5)),
sq 12 (.mv (.t 0)),
sq 13 (.len (.t 12)),
sq 14 (.bin .lss (.t 11) (.t 13))])
 (.cond (.t 14)
 .skip
 (.exit 0)))
 (.seq (.block 1 (.seq (.regd [sq 17 (.mv (.t 0)),
sq 18 (.mv (.t 5)),
sd 19 (.indexA 1 (.t 17) (.t 18)) [0, 1],
sd 20 (.load none (.t 19)) [0, 1, 2],
sq 21 (.mv (.t 1)),
sq 22 (.mv (.t 5)),
sd 23 (.indexA 1 (.t 21) (.t 22)) [4, 5],
sd 24 (.load none (.t 23)) [4, 5, 6],
sd 25 (.bin .neq (.t 20) (.t 24)) [0, 1, 2, 3, 4, 5, 6, 7]])
 (.cond (.t 25)
 (.seq (.reg [sq 4 (.mv (kB false))])
 .ret)
 .skip)))
 (.reg [sq 15 (.mv (.t 5)),
sq 16 (.bin .add (.t 15) (kI 1)),
sq 5 (.mv (.t 16))])))))))
 (.seq (.reg [sq 4 (.mv (kB true))])
 .ret))))⟩
theorem a78_ok : afn Try.prog 78 = some a78.er := by kernel_rfl
theorem F78_ok {x0 : (List ByteArray)} {x1 : (List ByteArray)} {r : Bool} (h : F78 x0 x1 = some r) : CallD Try.prog 78 [.c (dM (x0.map eS)), .c (dM (x1.map eS))] [] (tupV [.c (dB r)]) [] := by
 refine callS a78_ok (by simp [a78]) ?_
 rw [F78] at h
 simp only [a78, VW.down, Nat.reduceEqDiff, reduceCtorEq, Nat.reduceAdd, Nat.reduceLeDiff, Nat.reduceLT, Nat.reduceBEq, Nat.reduceSub, EE.down]
 refine condSh h (fun c1 h => ?_) (fun c1 h => ?_)
 ·refine ww ?_
  cases h
  exact eF []
 ·refine ww ?_
  obtain ⟨o2, ho, h⟩ := bi h
  refine cutS (fun s => ∃ po2, o2 = Sum.inr po2 ∧ s = ⟨[], []⟩) ?_ ?_
  ·have h0o2 := h
   have h := ho
   clear ho
   obtain ⟨_, hk, h⟩ := bi h
   have hk := ck_some hk
   refine ww ?_
   refine bL (fun j s => ∃ (o2_0 : Nat), (o2_0 ≤ x0.length ∧ j = x0.length - o2_0) ∧ s = ⟨[(0, .one (.c (dM (x0.map eS)))), (1, .one (.c (dM (x1.map eS)))), (5, .one (.c (dI ((o2_0 : Int)))))], []⟩ ∧ F78_l2 x1 (x0.drop o2_0) o2_0 = some o2) (x0.length - 0) [] ⟨0, ⟨hk.1, rfl⟩, rfl, h⟩ ?_
   rintro _ _ ⟨o2_0, ⟨hi, rfl⟩, rfl, h⟩
   refine ww ?_
   refine condS (fun c3 => ?_) (fun c3 => ?_)
   ·obtain ⟨xo2, hxo2, hd⟩ := countY (show (o2_0 : Int) < (x0.length : Int) from c3)
    rw [hd, F78_l2] at h
    refine ww ?_
    refine t_idxF (enc := eS) (xs := x0) rfl rfl hxo2 rfl ?_
    refine ww ?_
    obtain ⟨y4, hy4, h⟩ := bi h
    refine t_idxF (enc := eS) (xs := x1) rfl rfl hy4 rfl ?_
    refine ww ?_
    refine condSh h (fun c5 h => ?_) (fun c5 h => ?_)
    ·refine ww ?_
     obtain ⟨fh0o2, hfh0o2, rfl⟩ := Option.map_eq_some_iff.1 h
     have h := hfh0o2.trans h0o2
     cases h
     exact eF []
    ·refine ww ?_
     rw [wrapN (by omega)]
     exact eL' (x0.length - (o2_0 + 1)) [] ⟨o2_0 + 1, ⟨by omega, rfl⟩, rfl, h⟩ (by omega)
   ·rw [countN (show ¬ ((o2_0 : Int) < (x0.length : Int)) from c3), F78_l2] at h
    refine ww ?_
    cases h
    exact eM [] ⟨_, rfl, rfl⟩
  ·rintro _ ⟨po2, rfl, rfl⟩
   clear ho
   dsimp only at h
   refine ww ?_
   cases h
   exact eF []
end Go.Proofs.Ytbopaemngpbdgaa
