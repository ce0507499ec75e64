/- Each Go function as a function over typed data, and its walk. -/
import Derived.Test.YtadhmlfnfgpjjaaHX2
namespace Go.Proofs.Ytadhmlfnfgpjjaa
open Go Go.Fw Go.Shelf
set_option maxRecDepth 100000
set_option maxHeartbeats 4000000
set_option linter.unusedSimpArgs false
set_option linter.unusedVariables false
/- orchestrator/orchestratorref03.SameStrings -/
def F47_l2 (x1 : (List ByteArray)) : List ByteArray → Nat → Option ((Bool) ⊕ (Unit))
  | [], o2_0 => some (Sum.inr (()))
  | xo2 :: xs, o2_0 => (rdI x1 ((o2_0 : Int))).bind fun y4 => (if ¬ (xo2 = y4) then (some false).map Sum.inl else F47_l2 x1 xs (o2_0 + 1))
def F47 (x0 : (List ByteArray)) (x1 : (List ByteArray)) : Option (Bool) := (if ¬ ((x0.length : Int) = (x1.length : Int)) then some false else (((ck (0 ≤ x0.length ∧ x0.length ≤ 4294967290)).bind fun u6 => F47_l2 x1 x0 0 : Option ((Bool) ⊕ (Unit))).bind fun o2 => match o2 with | Sum.inl f => some f | Sum.inr po2 => some true))
def a47 : AFn := ⟨26, [(.tmp 4)],
 (.seq (.reg [⟨(some 4), none, .mv (kB false), [], (.new [])⟩])
 (.seq (.seq (.reg [⟨(some 6), none, .mv (.t 0), [], (.new [])⟩,
   ⟨(some 7), none, .len (.t 6), [], (.new [])⟩,
   ⟨(some 8), none, .mv (.t 1), [], (.new [])⟩,
   ⟨(some 9), none, .len (.t 8), [], (.new [])⟩,
   ⟨(some 10), none, .bin .neq (.t 7) (.t 9), [], (.new [])⟩])
 (.cond (.t 10)
 (.seq (.reg [⟨(some 4), none, .mv (kB false), [], (.new [])⟩])
 .ret)
 .skip))
 (.seq (.seq (.reg [⟨(some 5), none, .mv (kI 0), [], (.new [])⟩])
 (.sem (.block 0 (.loop (.seq (.seq (.reg [⟨(some 11), none, .mv (.t 5), [], (.new [])⟩,
   ⟨(some 12), none, .mv (.t 0), [], (.new [])⟩,
   ⟨(some 13), none, .len (.t 12), [], (.new [])⟩,
   ⟨(some 14), none, .bin .lss (.t 11) (.t 13), [], (.new [])⟩])
 (.cond (.t 14)
 .skip
 (.exit 0)))
 (.seq (.block 1 (.seq (.regd [⟨(some 17), none, .mv (.t 0), [], (.new [])⟩,
   ⟨(some 18), none, .mv (.t 5), [], (.new [])⟩,
   ⟨(some 19), none, .indexA 1 (.t 17) (.t 18), [0, 1], (.new [])⟩,
   ⟨(some 20), none, .load none (.t 19), [0, 1, 2], (.new [])⟩,
   ⟨(some 21), none, .mv (.t 1), [], (.new [])⟩,
   ⟨(some 22), none, .mv (.t 5), [], (.new [])⟩,
   ⟨(some 23), none, .indexA 1 (.t 21) (.t 22), [4, 5], (.new [])⟩,
   ⟨(some 24), none, .load none (.t 23), [4, 5, 6], (.new [])⟩,
   ⟨(some 25), none, .bin .neq (.t 20) (.t 24), [0, 1, 2, 3, 4, 5, 6, 7], (.new [])⟩])
 (.cond (.t 25)
 (.seq (.reg [⟨(some 4), none, .mv (kB false), [], (.new [])⟩])
 .ret)
 .skip)))
 (.reg [⟨(some 15), none, .mv (.t 5), [], (.new [])⟩,
   ⟨(some 16), none, .bin .add (.t 15) (kI 1), [], (.new [])⟩,
   ⟨(some 5), none, .mv (.t 16), [], (.new [])⟩])))))))
 (.seq (.reg [⟨(some 4), none, .mv (kB true), [], (.new [])⟩])
 .ret))))⟩
theorem a47_ok : afn Try.prog 47 = some a47.er := by kernel_rfl
theorem F47_ok {x0 : (List ByteArray)} {x1 : (List ByteArray)} {r : Bool} (h : F47 x0 x1 = some r) : CallD Try.prog 47 [.c (.d (.sl (x0.map eS))), .c (.d (.sl (x1.map eS)))] [] (tupV [.c (.d (.v (.bool r)))]) [] := by
  refine callS a47_ok (by simp [a47]) ?_
  rw [F47] at h
  simp only [a47, VW.down, Nat.reduceEqDiff, reduceCtorEq, Nat.reduceAdd, Nat.reduceLeDiff, Nat.reduceLT, Nat.reduceBEq, Nat.reduceSub, EE.down]
  refine condS (fun c1 => ?_) (fun c1 => ?_)
  · have h := (if_pos c1).symm.trans h
    simp only [VW.down, Nat.reduceEqDiff, reduceCtorEq, Nat.reduceAdd, Nat.reduceLeDiff, Nat.reduceLT, Nat.reduceBEq, Nat.reduceSub, EE.down]
    obtain rfl := Option.some.inj h
    exact eF []
  · have h := (if_neg c1).symm.trans h
    simp only [VW.down, Nat.reduceEqDiff, reduceCtorEq, Nat.reduceAdd, Nat.reduceLeDiff, Nat.reduceLT, Nat.reduceBEq, Nat.reduceSub, EE.down]
    obtain ⟨o2, ho, h⟩ := Option.bind_eq_some_iff.1 h
    refine cutS (fun s => ∃ po2, o2 = Sum.inr po2 ∧ s = ⟨[], []⟩) ?_ ?_
    · have h0o2 := h
      have h := ho
      clear ho
      obtain ⟨_, hk, h⟩ := Option.bind_eq_some_iff.1 h
      have hk := ck_some hk
      simp only [VW.down, Nat.reduceEqDiff, reduceCtorEq, Nat.reduceAdd, Nat.reduceLeDiff, Nat.reduceLT, Nat.reduceBEq, Nat.reduceSub, EE.down]
      refine bL (fun j s => ∃ (o2_0 : Nat), (o2_0 ≤ x0.length ∧ j = x0.length - o2_0) ∧ s = ⟨[(0, .one (.c (.d (.sl (x0.map eS))))), (1, .one (.c (.d (.sl (x1.map eS))))), (5, .one (.c (.d (.v (.int .i64 ((o2_0 : Int)))))))], []⟩ ∧ F47_l2 x1 (x0.drop o2_0) o2_0 = some o2) (x0.length - 0) [] ⟨0, ⟨hk.1, rfl⟩, rfl, h⟩ ?_
      rintro _ _ ⟨o2_0, ⟨hi, rfl⟩, rfl, h⟩
      simp only [VW.down, Nat.reduceEqDiff, reduceCtorEq, Nat.reduceAdd, Nat.reduceLeDiff, Nat.reduceLT, Nat.reduceBEq, Nat.reduceSub, EE.down]
      refine condS (fun c3 => ?_) (fun c3 => ?_)
      · obtain ⟨xo2, hxo2, hd⟩ := countY (show (o2_0 : Int) < (x0.length : Int) from c3)
        rw [hd, F47_l2] at h
        simp only [VW.down, Nat.reduceEqDiff, reduceCtorEq, Nat.reduceAdd, Nat.reduceLeDiff, Nat.reduceLT, Nat.reduceBEq, Nat.reduceSub, EE.down]
        refine t_idxF (enc := eS) (xs := x0) rfl rfl hxo2 rfl ?_
        simp only [VW.down, Nat.reduceEqDiff, reduceCtorEq, Nat.reduceAdd, Nat.reduceLeDiff, Nat.reduceLT, Nat.reduceBEq, Nat.reduceSub, EE.down]
        obtain ⟨y4, hy4, h⟩ := Option.bind_eq_some_iff.1 h
        refine t_idxF (enc := eS) (xs := x1) rfl rfl hy4 rfl ?_
        simp only [VW.down, Nat.reduceEqDiff, reduceCtorEq, Nat.reduceAdd, Nat.reduceLeDiff, Nat.reduceLT, Nat.reduceBEq, Nat.reduceSub, EE.down]
        refine condS (fun c5 => ?_) (fun c5 => ?_)
        · have h := (if_pos c5).symm.trans h
          simp only [VW.down, Nat.reduceEqDiff, reduceCtorEq, Nat.reduceAdd, Nat.reduceLeDiff, Nat.reduceLT, Nat.reduceBEq, Nat.reduceSub, EE.down]
          obtain ⟨fh0o2, hfh0o2, rfl⟩ := Option.map_eq_some_iff.1 h
          have h := hfh0o2.trans h0o2
          obtain rfl := Option.some.inj h
          exact eF []
        · have h := (if_neg c5).symm.trans h
          simp only [VW.down, Nat.reduceEqDiff, reduceCtorEq, Nat.reduceAdd, Nat.reduceLeDiff, Nat.reduceLT, Nat.reduceBEq, Nat.reduceSub, EE.down]
          rw [wrapN (by omega)]
          exact eL' (x0.length - (o2_0 + 1)) [] ⟨o2_0 + 1, ⟨by omega, rfl⟩, rfl, h⟩ (by omega)
      · rw [countN (show ¬ ((o2_0 : Int) < (x0.length : Int)) from c3), F47_l2] at h
        simp only [VW.down, Nat.reduceEqDiff, reduceCtorEq, Nat.reduceAdd, Nat.reduceLeDiff, Nat.reduceLT, Nat.reduceBEq, Nat.reduceSub, EE.down]
        obtain rfl := Option.some.inj h
        exact eM [] ⟨_, rfl, rfl⟩
    · rintro _ ⟨po2, rfl, rfl⟩
      clear ho
      dsimp only at h
      simp only [VW.down, Nat.reduceEqDiff, reduceCtorEq, Nat.reduceAdd, Nat.reduceLeDiff, Nat.reduceLT, Nat.reduceBEq, Nat.reduceSub, EE.down]
      obtain rfl := Option.some.inj h
      exact eF []

/- orchestrator/orchestratorref03.SameSelector -/
def F26_l2 (x1 : (List Requirement)) : List Requirement → Nat → Option ((Bool) ⊕ (Unit))
  | [], o2_0 => some (Sum.inr (()))
  | xo2 :: xs, o2_0 => (((rdI x1 ((o2_0 : Int))).bind fun y5 => (if ¬ (xo2.Key = y5.Key) then some true else (if ¬ (xo2.Op = y5.Op) then some true else (F47 xo2.Values y5.Values).bind fun t8 => some (nb t8)))).bind fun o4 => (if o4 = true then (some false).map Sum.inl else F26_l2 x1 xs (o2_0 + 1)))
def F26 (x0 : (List Requirement)) (x1 : (List Requirement)) : Option (Bool) := (if ¬ ((x0.length : Int) = (x1.length : Int)) then some false else (((ck (0 ≤ x0.length ∧ x0.length ≤ 4294967290)).bind fun u10 => F26_l2 x1 x0 0 : Option ((Bool) ⊕ (Unit))).bind fun o2 => match o2 with | Sum.inl f => some f | Sum.inr po2 => some true))
def a26 : AFn := ⟨55, [(.tmp 4)],
 (.seq (.reg [⟨(some 4), none, .mv (kB false), [], (.new [])⟩])
 (.seq (.seq (.reg [⟨(some 6), none, .mv (.t 0), [], (.new [])⟩,
   ⟨(some 7), none, .len (.t 6), [], (.new [])⟩,
   ⟨(some 8), none, .mv (.t 1), [], (.new [])⟩,
   ⟨(some 9), none, .len (.t 8), [], (.new [])⟩,
   ⟨(some 10), none, .bin .neq (.t 7) (.t 9), [], (.new [])⟩])
 (.cond (.t 10)
 (.seq (.reg [⟨(some 4), none, .mv (kB false), [], (.new [])⟩])
 .ret)
 .skip))
 (.seq (.seq (.reg [⟨(some 5), none, .mv (kI 0), [], (.new [])⟩])
 (.sem (.block 0 (.loop (.seq (.seq (.reg [⟨(some 11), none, .mv (.t 5), [], (.new [])⟩,
   ⟨(some 12), none, .mv (.t 0), [], (.new [])⟩,
   ⟨(some 13), none, .len (.t 12), [], (.new [])⟩,
   ⟨(some 14), none, .bin .lss (.t 11) (.t 13), [], (.new [])⟩])
 (.cond (.t 14)
 .skip
 (.exit 0)))
 (.seq (.block 1 (.seq (.sem (.regd [⟨(some 17), none, .mv (.t 0), [], (.new [])⟩,
   ⟨(some 18), none, .mv (.t 5), [], (.new [])⟩,
   ⟨(some 19), none, .indexA 3 (.t 17) (.t 18), [0, 1], (.new [])⟩,
   ⟨(some 20), none, .fieldA 0 (.t 19), [0, 1, 2], (.new [])⟩,
   ⟨(some 21), none, .load none (.t 20), [0, 1, 2, 3], (.new [])⟩,
   ⟨(some 22), none, .mv (.t 1), [], (.new [])⟩,
   ⟨(some 23), none, .mv (.t 5), [], (.new [])⟩,
   ⟨(some 24), none, .indexA 3 (.t 22) (.t 23), [5, 6], (.new [])⟩,
   ⟨(some 25), none, .fieldA 0 (.t 24), [5, 6, 7], (.new [])⟩,
   ⟨(some 26), none, .load none (.t 25), [5, 6, 7, 8], (.new [])⟩,
   ⟨(some 27), none, .bin .neq (.t 21) (.t 26), [0, 1, 2, 3, 4, 5, 6, 7, 8, 9], (.new [])⟩,
   ⟨(some 28), none, .mv (.t 27), [0, 1, 2, 3, 4, 5, 6, 7, 8, 9, 10], (.new [])⟩,
   ⟨(some 29), (some (28, false)), .mv (.t 0), [0, 1, 2, 3, 4, 5, 6, 7, 8, 9, 10, 11], (.new [])⟩,
   ⟨(some 30), (some (28, false)), .mv (.t 5), [0, 1, 2, 3, 4, 5, 6, 7, 8, 9, 10, 11], (.new [])⟩,
   ⟨(some 31), (some (28, false)), .indexA 3 (.t 29) (.t 30), [0, 1, 2, 3, 4, 5, 6, 7, 8, 9, 10, 11, 12, 13], (.new [])⟩,
   ⟨(some 32), (some (28, false)), .fieldA 1 (.t 31), [0, 1, 2, 3, 4, 5, 6, 7, 8, 9, 10, 11, 12, 13, 14], (.new [])⟩,
   ⟨(some 33), (some (28, false)), .load none (.t 32), [0, 1, 2, 3, 4, 5, 6, 7, 8, 9, 10, 11, 12, 13, 14, 15], (.new [])⟩,
   ⟨(some 34), (some (28, false)), .mv (.t 1), [0, 1, 2, 3, 4, 5, 6, 7, 8, 9, 10, 11], (.new [])⟩,
   ⟨(some 35), (some (28, false)), .mv (.t 5), [0, 1, 2, 3, 4, 5, 6, 7, 8, 9, 10, 11], (.new [])⟩,
   ⟨(some 36), (some (28, false)), .indexA 3 (.t 34) (.t 35), [0, 1, 2, 3, 4, 5, 6, 7, 8, 9, 10, 11, 17, 18], (.new [])⟩,
   ⟨(some 37), (some (28, false)), .fieldA 1 (.t 36), [0, 1, 2, 3, 4, 5, 6, 7, 8, 9, 10, 11, 17, 18, 19], (.new [])⟩,
   ⟨(some 38), (some (28, false)), .load none (.t 37), [0, 1, 2, 3, 4, 5, 6, 7, 8, 9, 10, 11, 17, 18, 19, 20], (.new [])⟩,
   ⟨(some 39), (some (28, false)), .bin .neq (.t 33) (.t 38), [0, 1, 2, 3, 4, 5, 6, 7, 8, 9, 10, 11, 12, 13, 14, 15, 16, 17, 18, 19, 20, 21], (.new [])⟩,
   ⟨(some 40), none, .pick (.t 28) (kB true) (.t 39), [0, 1, 2, 3, 4, 5, 6, 7, 8, 9, 10, 11, 12, 13, 14, 15, 16, 17, 18, 19, 20, 21, 22], (.lone [])⟩,
   ⟨(some 41), none, .mv (.t 40), [0, 1, 2, 3, 4, 5, 6, 7, 8, 9, 10, 11, 12, 13, 14, 15, 16, 17, 18, 19, 20, 21, 22, 23], (.new [])⟩,
   ⟨(some 42), (some (41, false)), .mv (.t 0), [0, 1, 2, 3, 4, 5, 6, 7, 8, 9, 10, 11, 12, 13, 14, 15, 16, 17, 18, 19, 20, 21, 22, 23, 24], (.new [])⟩,
   ⟨(some 43), (some (41, false)), .mv (.t 5), [0, 1, 2, 3, 4, 5, 6, 7, 8, 9, 10, 11, 12, 13, 14, 15, 16, 17, 18, 19, 20, 21, 22, 23, 24], (.new [])⟩,
   ⟨(some 44), (some (41, false)), .indexA 3 (.t 42) (.t 43), [0, 1, 2, 3, 4, 5, 6, 7, 8, 9, 10, 11, 12, 13, 14, 15, 16, 17, 18, 19, 20, 21, 22, 23, 24, 25, 26], (.new [])⟩,
   ⟨(some 45), (some (41, false)), .fieldA 2 (.t 44), [0, 1, 2, 3, 4, 5, 6, 7, 8, 9, 10, 11, 12, 13, 14, 15, 16, 17, 18, 19, 20, 21, 22, 23, 24, 25, 26, 27], (.new [])⟩,
   ⟨(some 46), (some (41, false)), .load none (.t 45), [0, 1, 2, 3, 4, 5, 6, 7, 8, 9, 10, 11, 12, 13, 14, 15, 16, 17, 18, 19, 20, 21, 22, 23, 24, 25, 26, 27, 28], (.new [])⟩,
   ⟨(some 47), (some (41, false)), .mv (.t 1), [0, 1, 2, 3, 4, 5, 6, 7, 8, 9, 10, 11, 12, 13, 14, 15, 16, 17, 18, 19, 20, 21, 22, 23, 24], (.new [])⟩,
   ⟨(some 48), (some (41, false)), .mv (.t 5), [0, 1, 2, 3, 4, 5, 6, 7, 8, 9, 10, 11, 12, 13, 14, 15, 16, 17, 18, 19, 20, 21, 22, 23, 24], (.new [])⟩,
   ⟨(some 49), (some (41, false)), .indexA 3 (.t 47) (.t 48), [0, 1, 2, 3, 4, 5, 6, 7, 8, 9, 10, 11, 12, 13, 14, 15, 16, 17, 18, 19, 20, 21, 22, 23, 24, 30, 31], (.new [])⟩,
   ⟨(some 50), (some (41, false)), .fieldA 2 (.t 49), [0, 1, 2, 3, 4, 5, 6, 7, 8, 9, 10, 11, 12, 13, 14, 15, 16, 17, 18, 19, 20, 21, 22, 23, 24, 30, 31, 32], (.new [])⟩,
   ⟨(some 51), (some (41, false)), .load none (.t 50), [0, 1, 2, 3, 4, 5, 6, 7, 8, 9, 10, 11, 12, 13, 14, 15, 16, 17, 18, 19, 20, 21, 22, 23, 24, 30, 31, 32, 33], (.new [])⟩,
   ⟨(some 52), (some (41, false)), .call 47 [(.t 46), (.t 51)], [0, 1, 2, 3, 4, 5, 6, 7, 8, 9, 10, 11, 12, 13, 14, 15, 16, 17, 18, 19, 20, 21, 22, 23, 24, 25, 26, 27, 28, 29, 30, 31, 32, 33, 34], (.lone [])⟩,
   ⟨(some 53), (some (41, false)), .not (.t 52), [0, 1, 2, 3, 4, 5, 6, 7, 8, 9, 10, 11, 12, 13, 14, 15, 16, 17, 18, 19, 20, 21, 22, 23, 24, 25, 26, 27, 28, 29, 30, 31, 32, 33, 34, 35], (.new [])⟩,
   ⟨(some 54), none, .pick (.t 41) (kB true) (.t 53), [0, 1, 2, 3, 4, 5, 6, 7, 8, 9, 10, 11, 12, 13, 14, 15, 16, 17, 18, 19, 20, 21, 22, 23, 24, 25, 26, 27, 28, 29, 30, 31, 32, 33, 34, 35, 36], (.lone [])⟩]))
 (.cond (.t 54)
 (.seq (.reg [⟨(some 4), none, .mv (kB false), [], (.new [])⟩])
 .ret)
 .skip)))
 (.reg [⟨(some 15), none, .mv (.t 5), [], (.new [])⟩,
   ⟨(some 16), none, .bin .add (.t 15) (kI 1), [], (.new [])⟩,
   ⟨(some 5), none, .mv (.t 16), [], (.new [])⟩])))))))
 (.seq (.reg [⟨(some 4), none, .mv (kB true), [], (.new [])⟩])
 .ret))))⟩
theorem a26_ok : afn Try.prog 26 = some a26.er := by kernel_rfl
theorem F26_ok {x0 : (List Requirement)} {x1 : (List Requirement)} {r : Bool} (h : F26 x0 x1 = some r) : CallD Try.prog 26 [.c (.d (.sl (x0.map eRequirement))), .c (.d (.sl (x1.map eRequirement)))] [] (tupV [.c (.d (.v (.bool r)))]) [] := by
  refine callS a26_ok (by simp [a26]) ?_
  rw [F26] at h
  simp only [a26, VW.down, Nat.reduceEqDiff, reduceCtorEq, Nat.reduceAdd, Nat.reduceLeDiff, Nat.reduceLT, Nat.reduceBEq, Nat.reduceSub, EE.down]
  refine condS (fun c1 => ?_) (fun c1 => ?_)
  · have h := (if_pos c1).symm.trans h
    simp only [VW.down, Nat.reduceEqDiff, reduceCtorEq, Nat.reduceAdd, Nat.reduceLeDiff, Nat.reduceLT, Nat.reduceBEq, Nat.reduceSub, EE.down]
    obtain rfl := Option.some.inj h
    exact eF []
  · have h := (if_neg c1).symm.trans h
    simp only [VW.down, Nat.reduceEqDiff, reduceCtorEq, Nat.reduceAdd, Nat.reduceLeDiff, Nat.reduceLT, Nat.reduceBEq, Nat.reduceSub, EE.down]
    obtain ⟨o2, ho, h⟩ := Option.bind_eq_some_iff.1 h
    refine cutS (fun s => ∃ po2, o2 = Sum.inr po2 ∧ s = ⟨[], []⟩) ?_ ?_
    · have h0o2 := h
      have h := ho
      clear ho
      obtain ⟨_, hk, h⟩ := Option.bind_eq_some_iff.1 h
      have hk := ck_some hk
      simp only [VW.down, Nat.reduceEqDiff, reduceCtorEq, Nat.reduceAdd, Nat.reduceLeDiff, Nat.reduceLT, Nat.reduceBEq, Nat.reduceSub, EE.down]
      refine bL (fun j s => ∃ (o2_0 : Nat), (o2_0 ≤ x0.length ∧ j = x0.length - o2_0) ∧ s = ⟨[(0, .one (.c (.d (.sl (x0.map eRequirement))))), (1, .one (.c (.d (.sl (x1.map eRequirement))))), (5, .one (.c (.d (.v (.int .i64 ((o2_0 : Int)))))))], []⟩ ∧ F26_l2 x1 (x0.drop o2_0) o2_0 = some o2) (x0.length - 0) [] ⟨0, ⟨hk.1, rfl⟩, rfl, h⟩ ?_
      rintro _ _ ⟨o2_0, ⟨hi, rfl⟩, rfl, h⟩
      simp only [VW.down, Nat.reduceEqDiff, reduceCtorEq, Nat.reduceAdd, Nat.reduceLeDiff, Nat.reduceLT, Nat.reduceBEq, Nat.reduceSub, EE.down]
      refine condS (fun c3 => ?_) (fun c3 => ?_)
      · obtain ⟨xo2, hxo2, hd⟩ := countY (show (o2_0 : Int) < (x0.length : Int) from c3)
        rw [hd, F26_l2] at h
        simp only [VW.down, Nat.reduceEqDiff, reduceCtorEq, Nat.reduceAdd, Nat.reduceLeDiff, Nat.reduceLT, Nat.reduceBEq, Nat.reduceSub, EE.down]
        obtain ⟨o4, ho, h⟩ := Option.bind_eq_some_iff.1 h
        refine cutS (fun s => s = ⟨[(0, .one (.c (.d (.sl (x0.map eRequirement))))), (1, .one (.c (.d (.sl (x1.map eRequirement))))), (5, .one (.c (.d (.v (.int .i64 ((o2_0 : Int))))))), (54, .one (.c (.d (.v (.bool o4)))))], []⟩) ?_ ?_
        · have h := ho
          clear ho
          simp only [VW.down, Nat.reduceEqDiff, reduceCtorEq, Nat.reduceAdd, Nat.reduceLeDiff, Nat.reduceLT, Nat.reduceBEq, Nat.reduceSub, EE.down]
          refine t_idxF (enc := eRequirement) (xs := x0) rfl rfl hxo2 rfl ?_
          simp only [VW.down, Nat.reduceEqDiff, reduceCtorEq, Nat.reduceAdd, Nat.reduceLeDiff, Nat.reduceLT, Nat.reduceBEq, Nat.reduceSub, EE.down]
          obtain ⟨y5, hy5, h⟩ := Option.bind_eq_some_iff.1 h
          refine t_idxF (enc := eRequirement) (xs := x1) rfl rfl hy5 rfl ?_
          simp only [VW.down, Nat.reduceEqDiff, reduceCtorEq, Nat.reduceAdd, Nat.reduceLeDiff, Nat.reduceLT, Nat.reduceBEq, Nat.reduceSub, EE.down]
          refine guardD (fun g6 => ?_) (fun g6 => ?_)
          · have h := (if_pos g6).symm.trans h
            simp only [VW.down, Nat.reduceEqDiff, reduceCtorEq, Nat.reduceAdd, Nat.reduceLeDiff, Nat.reduceLT, Nat.reduceBEq, Nat.reduceSub, EE.down]
            obtain rfl := Option.some.inj h
            exact eM [] rfl
          · have h := (if_neg g6).symm.trans h
            simp only [VW.down, Nat.reduceEqDiff, reduceCtorEq, Nat.reduceAdd, Nat.reduceLeDiff, Nat.reduceLT, Nat.reduceBEq, Nat.reduceSub, EE.down]
            refine t_idxF (enc := eRequirement) (xs := x0) rfl rfl hxo2 rfl ?_
            simp only [VW.down, Nat.reduceEqDiff, reduceCtorEq, Nat.reduceAdd, Nat.reduceLeDiff, Nat.reduceLT, Nat.reduceBEq, Nat.reduceSub, EE.down]
            refine t_idxF (enc := eRequirement) (xs := x1) rfl rfl hy5 rfl ?_
            simp only [VW.down, Nat.reduceEqDiff, reduceCtorEq, Nat.reduceAdd, Nat.reduceLeDiff, Nat.reduceLT, Nat.reduceBEq, Nat.reduceSub, EE.down]
            refine guardD (fun g7 => ?_) (fun g7 => ?_)
            · have h := (if_pos g7).symm.trans h
              simp only [VW.down, Nat.reduceEqDiff, reduceCtorEq, Nat.reduceAdd, Nat.reduceLeDiff, Nat.reduceLT, Nat.reduceBEq, Nat.reduceSub, EE.down]
              obtain rfl := Option.some.inj h
              exact eM [] rfl
            · have h := (if_neg g7).symm.trans h
              simp only [VW.down, Nat.reduceEqDiff, reduceCtorEq, Nat.reduceAdd, Nat.reduceLeDiff, Nat.reduceLT, Nat.reduceBEq, Nat.reduceSub, EE.down]
              refine t_idxF (enc := eRequirement) (xs := x0) rfl rfl hxo2 rfl ?_
              simp only [VW.down, Nat.reduceEqDiff, reduceCtorEq, Nat.reduceAdd, Nat.reduceLeDiff, Nat.reduceLT, Nat.reduceBEq, Nat.reduceSub, EE.down]
              refine t_idxF (enc := eRequirement) (xs := x1) rfl rfl hy5 rfl ?_
              simp only [VW.down, Nat.reduceEqDiff, reduceCtorEq, Nat.reduceAdd, Nat.reduceLeDiff, Nat.reduceLT, Nat.reduceBEq, Nat.reduceSub, EE.down]
              obtain ⟨t8, ht8, h⟩ := Option.bind_eq_some_iff.1 h
              refine callX_n [] (F47_ok ht8) ?_ ?_ ?_ ?_ ?_ ?_
              · first | rfl | simp [nrmA, nrmC, nrm, A1.ren, C.ren, rn, List.length_set]
              · simp [liveAll, A1.live, C.live]
              · rfl
              · decide
              · exact trivial
              simp only [VW.down, Nat.reduceEqDiff, reduceCtorEq, Nat.reduceAdd, Nat.reduceLeDiff, Nat.reduceLT, Nat.reduceBEq, Nat.reduceSub, EE.down]
              obtain rfl := Option.some.inj h
              exact eM [] rfl
        · rintro _ rfl
          clear ho
          simp only [VW.down, Nat.reduceEqDiff, reduceCtorEq, Nat.reduceAdd, Nat.reduceLeDiff, Nat.reduceLT, Nat.reduceBEq, Nat.reduceSub, EE.down]
          refine condB (fun c9 => ?_) (fun c9 => ?_)
          · have h := (if_pos c9).symm.trans h
            simp only [VW.down, Nat.reduceEqDiff, reduceCtorEq, Nat.reduceAdd, Nat.reduceLeDiff, Nat.reduceLT, Nat.reduceBEq, Nat.reduceSub, EE.down]
            obtain ⟨fh0o2, hfh0o2, rfl⟩ := Option.map_eq_some_iff.1 h
            have h := hfh0o2.trans h0o2
            obtain rfl := Option.some.inj h
            exact eF []
          · have h := (if_neg c9).symm.trans h
            simp only [VW.down, Nat.reduceEqDiff, reduceCtorEq, Nat.reduceAdd, Nat.reduceLeDiff, Nat.reduceLT, Nat.reduceBEq, Nat.reduceSub, EE.down]
            rw [wrapN (by omega)]
            exact eL' (x0.length - (o2_0 + 1)) [] ⟨o2_0 + 1, ⟨by omega, rfl⟩, rfl, h⟩ (by omega)
      · rw [countN (show ¬ ((o2_0 : Int) < (x0.length : Int)) from c3), F26_l2] at h
        simp only [VW.down, Nat.reduceEqDiff, reduceCtorEq, Nat.reduceAdd, Nat.reduceLeDiff, Nat.reduceLT, Nat.reduceBEq, Nat.reduceSub, EE.down]
        obtain rfl := Option.some.inj h
        exact eM [] ⟨_, rfl, rfl⟩
    · rintro _ ⟨po2, rfl, rfl⟩
      clear ho
      dsimp only at h
      simp only [VW.down, Nat.reduceEqDiff, reduceCtorEq, Nat.reduceAdd, Nat.reduceLeDiff, Nat.reduceLT, Nat.reduceBEq, Nat.reduceSub, EE.down]
      obtain rfl := Option.some.inj h
      exact eF []

/- orchestrator/orchestratorlaw03.LabelNarrows -/
def F10 (x0 : (List Requirement)) (x1 : (List Requirement)) (x2 : (List Label)) : Option (Bool) := (((F11 x2 x0).bind fun t2 => (if (nb t2) = true then some true else (F11 ([]) x1).bind fun t4 => (if (nb t4) = true then some true else (if 20 < (x0.length : Int) then some true else some (decide (20 < (x1.length : Int))))))).bind fun o1 => (if o1 = true then (F12).bind fun t8 => some t8 else (apI ([] : List Requirement) x0).bind fun a9 => (apI a9 x1).bind fun a10 => (((F22 a10 x2).bind fun t12 => (F22 x0 x2).bind fun t13 => (if t13 = true then (F22 x1 x2).bind fun t15 => some (((t12 == t15) != true)) else some (((t12 == false) != true)))).bind fun o11 => (if o11 = true then some false else (F27 x0).bind fun t17 => (F27 x1).bind fun t18 => (((if t17.2 = 0 then (if t18.2 = 0 then (if 0 < (x0.length : Int) then (if 0 < (x1.length : Int) then (if (a10.length : Int) ≤ 16 then some (decide ((IntKind.i64.wrap (((t17.1.size : Int)) + ((t18.1.size : Int)))) < 19999)) else some false) else some false) else some false) else some false) else some false)).bind fun o19 => (if o19 = true then (catI t17.1 ((⟨#[32, 44]⟩ : ByteArray))).bind fun s26 => (catI s26 t18.1).bind fun s27 => (F24 s27).bind fun t28 => (((if t28.2 = 0 then (F26 t28.1 a10).bind fun t31 => (if t31 = true then (F12).bind fun t33 => some t33 else some false) else some false)).bind fun o29 => some o29) else (F12).bind fun t34 => some t34))))))
def a10 : AFn := ⟨109, [(.tmp 6)],
 (.seq (.reg [⟨(some 6), none, .mv (kB false), [], (.new [])⟩])
 (.seq (.seq (.sem (.reg [⟨(some 14), none, .mv (.t 2), [], (.new [])⟩,
   ⟨(some 15), none, .mv (.t 0), [], (.new [])⟩,
   ⟨(some 16), none, .call 11 [(.t 14), (.t 15)], [], (.new [])⟩,
   ⟨(some 17), none, .not (.t 16), [], (.new [])⟩,
   ⟨(some 18), none, .mv (.t 17), [], (.new [])⟩,
   ⟨(some 19), (some (18, false)), .mv (.t 1), [], (.new [])⟩,
   ⟨(some 20), (some (18, false)), .call 11 [kN, (.t 19)], [], (.new [])⟩,
   ⟨(some 21), (some (18, false)), .not (.t 20), [], (.new [])⟩,
   ⟨(some 22), none, .pick (.t 18) (kB true) (.t 21), [], (.new [])⟩,
   ⟨(some 23), none, .mv (.t 22), [], (.new [])⟩,
   ⟨(some 24), (some (23, false)), .mv (.t 0), [], (.new [])⟩,
   ⟨(some 25), (some (23, false)), .len (.t 24), [], (.new [])⟩,
   ⟨(some 26), (some (23, false)), .bin .gtr (.t 25) (kI 20), [], (.new [])⟩,
   ⟨(some 27), none, .pick (.t 23) (kB true) (.t 26), [], (.new [])⟩,
   ⟨(some 28), none, .mv (.t 27), [], (.new [])⟩,
   ⟨(some 29), (some (28, false)), .mv (.t 1), [], (.new [])⟩,
   ⟨(some 30), (some (28, false)), .len (.t 29), [], (.new [])⟩,
   ⟨(some 31), (some (28, false)), .bin .gtr (.t 30) (kI 20), [], (.new [])⟩,
   ⟨(some 32), none, .pick (.t 28) (kB true) (.t 31), [], (.new [])⟩]))
 (.cond (.t 32)
 (.seq (.reg [⟨(some 33), none, .call 12 [], [], (.new [])⟩,
   ⟨(some 6), none, .mv (.t 33), [], (.new [])⟩])
 .ret)
 .skip))
 (.seq (.reg [⟨(some 34), none, .bslice 3 [], [], (.new [])⟩,
   ⟨(some 35), none, .mv (.t 0), [], (.new [])⟩,
   ⟨(some 36), none, .app 3 48 (.t 34) (.t 35), [], (.new [])⟩,
   ⟨(some 37), none, .mv (.t 1), [], (.new [])⟩,
   ⟨(some 38), none, .app 3 48 (.t 36) (.t 37), [], (.new [])⟩,
   ⟨(some 7), none, .mv (.t 38), [], (.new [])⟩])
 (.seq (.seq (.sem (.reg [⟨(some 39), none, .mv (.t 7), [], (.new [])⟩,
   ⟨(some 40), none, .mv (.t 2), [], (.new [])⟩,
   ⟨(some 41), none, .call 22 [(.t 39), (.t 40)], [], (.new [])⟩,
   ⟨(some 42), none, .mv (.t 0), [], (.new [])⟩,
   ⟨(some 43), none, .mv (.t 2), [], (.new [])⟩,
   ⟨(some 44), none, .call 22 [(.t 42), (.t 43)], [], (.new [])⟩,
   ⟨(some 45), none, .mv (.t 44), [], (.new [])⟩,
   ⟨(some 46), (some (45, true)), .mv (.t 1), [], (.new [])⟩,
   ⟨(some 47), (some (45, true)), .mv (.t 2), [], (.new [])⟩,
   ⟨(some 48), (some (45, true)), .call 22 [(.t 46), (.t 47)], [], (.new [])⟩,
   ⟨(some 49), none, .pick (.t 45) (.t 48) (kB false), [], (.new [])⟩,
   ⟨(some 50), none, .beq true (.t 41) (.t 49), [], (.new [])⟩]))
 (.cond (.t 50)
 (.seq (.reg [⟨(some 6), none, .mv (kB false), [], (.new [])⟩])
 .ret)
 .skip))
 (.seq (.reg [⟨(some 52), none, .mv (.t 0), [], (.new [])⟩,
   ⟨(some 53), none, .call 27 [(.t 52)], [], (.new [])⟩,
   ⟨(some 51), none, .mv (.t 53), [], (.new [])⟩,
   ⟨(some 54), none, .ext (.t 51) 0, [], (.new [])⟩,
   ⟨(some 55), none, .ext (.t 51) 1, [], (.new [])⟩,
   ⟨(some 8), none, .mv (.t 54), [], (.new [])⟩,
   ⟨(some 9), none, .mv (.t 55), [], (.new [])⟩])
 (.seq (.reg [⟨(some 57), none, .mv (.t 1), [], (.new [])⟩,
   ⟨(some 58), none, .call 27 [(.t 57)], [], (.new [])⟩,
   ⟨(some 56), none, .mv (.t 58), [], (.new [])⟩,
   ⟨(some 59), none, .ext (.t 56) 0, [], (.new [])⟩,
   ⟨(some 60), none, .ext (.t 56) 1, [], (.new [])⟩,
   ⟨(some 10), none, .mv (.t 59), [], (.new [])⟩,
   ⟨(some 11), none, .mv (.t 60), [], (.new [])⟩])
 (.seq (.seq (.sem (.reg [⟨(some 61), none, .mv (.t 9), [], (.new [])⟩,
   ⟨(some 62), none, .bin .eql (.t 61) (kI 0), [], (.new [])⟩,
   ⟨(some 63), none, .mv (.t 62), [], (.new [])⟩,
   ⟨(some 64), (some (63, true)), .mv (.t 11), [], (.new [])⟩,
   ⟨(some 65), (some (63, true)), .bin .eql (.t 64) (kI 0), [], (.new [])⟩,
   ⟨(some 66), none, .pick (.t 63) (.t 65) (kB false), [], (.new [])⟩,
   ⟨(some 67), none, .mv (.t 66), [], (.new [])⟩,
   ⟨(some 68), (some (67, true)), .mv (.t 0), [], (.new [])⟩,
   ⟨(some 69), (some (67, true)), .len (.t 68), [], (.new [])⟩,
   ⟨(some 70), (some (67, true)), .bin .gtr (.t 69) (kI 0), [], (.new [])⟩,
   ⟨(some 71), none, .pick (.t 67) (.t 70) (kB false), [], (.new [])⟩,
   ⟨(some 72), none, .mv (.t 71), [], (.new [])⟩,
   ⟨(some 73), (some (72, true)), .mv (.t 1), [], (.new [])⟩,
   ⟨(some 74), (some (72, true)), .len (.t 73), [], (.new [])⟩,
   ⟨(some 75), (some (72, true)), .bin .gtr (.t 74) (kI 0), [], (.new [])⟩,
   ⟨(some 76), none, .pick (.t 72) (.t 75) (kB false), [], (.new [])⟩,
   ⟨(some 77), none, .mv (.t 76), [], (.new [])⟩,
   ⟨(some 78), (some (77, true)), .mv (.t 7), [], (.new [])⟩,
   ⟨(some 79), (some (77, true)), .len (.t 78), [], (.new [])⟩,
   ⟨(some 80), (some (77, true)), .bin .leq (.t 79) (kI 16), [], (.new [])⟩,
   ⟨(some 81), none, .pick (.t 77) (.t 80) (kB false), [], (.new [])⟩,
   ⟨(some 82), none, .mv (.t 81), [], (.new [])⟩,
   ⟨(some 83), (some (82, true)), .mv (.t 8), [], (.new [])⟩,
   ⟨(some 84), (some (82, true)), .slen (.t 83), [], (.new [])⟩,
   ⟨(some 85), (some (82, true)), .mv (.t 10), [], (.new [])⟩,
   ⟨(some 86), (some (82, true)), .slen (.t 85), [], (.new [])⟩,
   ⟨(some 87), (some (82, true)), .bin .add (.t 84) (.t 86), [], (.new [])⟩,
   ⟨(some 88), (some (82, true)), .bin .lss (.t 87) (kI 19999), [], (.new [])⟩,
   ⟨(some 89), none, .pick (.t 82) (.t 88) (kB false), [], (.new [])⟩]))
 (.cond (.t 89)
 (.seq (.reg [⟨(some 91), none, .mv (.t 8), [], (.new [])⟩,
   ⟨(some 92), none, .bin .add (.t 91) (kS ⟨#[32, 44]⟩), [], (.new [])⟩,
   ⟨(some 93), none, .mv (.t 10), [], (.new [])⟩,
   ⟨(some 94), none, .bin .add (.t 92) (.t 93), [], (.new [])⟩,
   ⟨(some 95), none, .call 24 [(.t 94)], [], (.new [])⟩,
   ⟨(some 90), none, .mv (.t 95), [], (.new [])⟩,
   ⟨(some 96), none, .ext (.t 90) 0, [], (.new [])⟩,
   ⟨(some 97), none, .ext (.t 90) 1, [], (.new [])⟩,
   ⟨(some 12), none, .mv (.t 96), [], (.new [])⟩,
   ⟨(some 13), none, .mv (.t 97), [], (.new [])⟩])
 (.seq (.sem (.reg [⟨(some 98), none, .mv (.t 13), [], (.new [])⟩,
   ⟨(some 99), none, .bin .eql (.t 98) (kI 0), [], (.new [])⟩,
   ⟨(some 100), none, .mv (.t 99), [], (.new [])⟩,
   ⟨(some 101), (some (100, true)), .mv (.t 12), [], (.new [])⟩,
   ⟨(some 102), (some (100, true)), .mv (.t 7), [], (.new [])⟩,
   ⟨(some 103), (some (100, true)), .call 26 [(.t 101), (.t 102)], [], (.new [])⟩,
   ⟨(some 104), none, .pick (.t 100) (.t 103) (kB false), [], (.new [])⟩,
   ⟨(some 105), none, .mv (.t 104), [], (.new [])⟩,
   ⟨(some 106), (some (105, true)), .call 12 [], [], (.new [])⟩,
   ⟨(some 107), none, .pick (.t 105) (.t 106) (kB false), [], (.new [])⟩,
   ⟨(some 6), none, .mv (.t 107), [], (.new [])⟩]))
 .ret))
 .skip))
 (.seq (.reg [⟨(some 108), none, .call 12 [], [], (.new [])⟩,
   ⟨(some 6), none, .mv (.t 108), [], (.new [])⟩])
 .ret))))))))⟩
theorem a10_ok : afn Try.prog 10 = some a10.er := by kernel_rfl
theorem F10_ok {x0 : (List Requirement)} {x1 : (List Requirement)} {x2 : (List Label)} {r : Bool} (h : F10 x0 x1 x2 = some r) : CallD Try.prog 10 [.c (.d (.sl (x0.map eRequirement))), .c (.d (.sl (x1.map eRequirement))), .c (.d (.sl (x2.map eLabel)))] [] (tupV [.c (.d (.v (.bool r)))]) [] := by
  refine callS a10_ok (by simp [a10]) ?_
  rw [F10] at h
  simp only [a10, VW.down, Nat.reduceEqDiff, reduceCtorEq, Nat.reduceAdd, Nat.reduceLeDiff, Nat.reduceLT, Nat.reduceBEq, Nat.reduceSub, EE.down]
  obtain ⟨o1, ho, h⟩ := Option.bind_eq_some_iff.1 h
  refine cutS (fun s => s = ⟨[(0, .one (.c (.d (.sl (x0.map eRequirement))))), (1, .one (.c (.d (.sl (x1.map eRequirement))))), (2, .one (.c (.d (.sl (x2.map eLabel))))), (32, .one (.c (.d (.v (.bool o1)))))], []⟩) ?_ ?_
  · have h := ho
    clear ho
    simp only [VW.down, Nat.reduceEqDiff, reduceCtorEq, Nat.reduceAdd, Nat.reduceLeDiff, Nat.reduceLT, Nat.reduceBEq, Nat.reduceSub, EE.down]
    obtain ⟨t2, ht2, h⟩ := Option.bind_eq_some_iff.1 h
    refine callX_n [] (F11_ok ht2) ?_ ?_ ?_ ?_ ?_ ?_
    · first | rfl | simp [nrmA, nrmC, nrm, A1.ren, C.ren, rn, List.length_set]
    · simp [liveAll, A1.live, C.live]
    · rfl
    · decide
    · exact trivial
    simp only [VW.down, Nat.reduceEqDiff, reduceCtorEq, Nat.reduceAdd, Nat.reduceLeDiff, Nat.reduceLT, Nat.reduceBEq, Nat.reduceSub, EE.down]
    refine guardSB (fun g3 => ?_) (fun g3 => ?_)
    · have h := (if_pos g3).symm.trans h
      simp only [VW.down, Nat.reduceEqDiff, reduceCtorEq, Nat.reduceAdd, Nat.reduceLeDiff, Nat.reduceLT, Nat.reduceBEq, Nat.reduceSub, EE.down]
      obtain rfl := Option.some.inj h
      exact eM [] rfl
    · have h := (if_neg g3).symm.trans h
      simp only [VW.down, Nat.reduceEqDiff, reduceCtorEq, Nat.reduceAdd, Nat.reduceLeDiff, Nat.reduceLT, Nat.reduceBEq, Nat.reduceSub, EE.down]
      obtain ⟨t4, ht4, h⟩ := Option.bind_eq_some_iff.1 h
      refine callX_n [] (F11_ok ht4) ?_ ?_ ?_ ?_ ?_ ?_
      · first | rfl | simp [nrmA, nrmC, nrm, A1.ren, C.ren, rn, List.length_set]
      · simp [liveAll, A1.live, C.live]
      · rfl
      · decide
      · exact trivial
      simp only [VW.down, Nat.reduceEqDiff, reduceCtorEq, Nat.reduceAdd, Nat.reduceLeDiff, Nat.reduceLT, Nat.reduceBEq, Nat.reduceSub, EE.down]
      refine guardSB (fun g5 => ?_) (fun g5 => ?_)
      · have h := (if_pos g5).symm.trans h
        simp only [VW.down, Nat.reduceEqDiff, reduceCtorEq, Nat.reduceAdd, Nat.reduceLeDiff, Nat.reduceLT, Nat.reduceBEq, Nat.reduceSub, EE.down]
        obtain rfl := Option.some.inj h
        exact eM [] rfl
      · have h := (if_neg g5).symm.trans h
        simp only [VW.down, Nat.reduceEqDiff, reduceCtorEq, Nat.reduceAdd, Nat.reduceLeDiff, Nat.reduceLT, Nat.reduceBEq, Nat.reduceSub, EE.down]
        refine guardS (fun g6 => ?_) (fun g6 => ?_)
        · have h := (if_pos g6).symm.trans h
          simp only [VW.down, Nat.reduceEqDiff, reduceCtorEq, Nat.reduceAdd, Nat.reduceLeDiff, Nat.reduceLT, Nat.reduceBEq, Nat.reduceSub, EE.down]
          obtain rfl := Option.some.inj h
          exact eM [] rfl
        · have h := (if_neg g6).symm.trans h
          simp only [VW.down, Nat.reduceEqDiff, reduceCtorEq, Nat.reduceAdd, Nat.reduceLeDiff, Nat.reduceLT, Nat.reduceBEq, Nat.reduceSub, EE.down]
          obtain rfl := Option.some.inj h
          exact eM [] rfl
  · rintro _ rfl
    clear ho
    simp only [VW.down, Nat.reduceEqDiff, reduceCtorEq, Nat.reduceAdd, Nat.reduceLeDiff, Nat.reduceLT, Nat.reduceBEq, Nat.reduceSub, EE.down]
    refine condB (fun c7 => ?_) (fun c7 => ?_)
    · have h := (if_pos c7).symm.trans h
      simp only [VW.down, Nat.reduceEqDiff, reduceCtorEq, Nat.reduceAdd, Nat.reduceLeDiff, Nat.reduceLT, Nat.reduceBEq, Nat.reduceSub, EE.down]
      obtain ⟨t8, ht8, h⟩ := Option.bind_eq_some_iff.1 h
      refine callX_n [] (F12_ok ht8) ?_ ?_ ?_ ?_ ?_ ?_
      · first | rfl | simp [nrmA, nrmC, nrm, A1.ren, C.ren, rn, List.length_set]
      · simp [liveAll, A1.live, C.live]
      · rfl
      · decide
      · exact trivial
      simp only [VW.down, Nat.reduceEqDiff, reduceCtorEq, Nat.reduceAdd, Nat.reduceLeDiff, Nat.reduceLT, Nat.reduceBEq, Nat.reduceSub, EE.down]
      obtain rfl := Option.some.inj h
      exact eF []
    · have h := (if_neg c7).symm.trans h
      simp only [VW.down, Nat.reduceEqDiff, reduceCtorEq, Nat.reduceAdd, Nat.reduceLeDiff, Nat.reduceLT, Nat.reduceBEq, Nat.reduceSub, EE.down]
      refine t_bslice (enc := eRequirement) (ys := ([] : List Requirement)) rfl rfl (by simp [A1.cells]) (by first | rfl | (simp only [List.drop_zero, take_mapL]; rfl)) ?_
      simp only [VW.down, Nat.reduceEqDiff, reduceCtorEq, Nat.reduceAdd, Nat.reduceLeDiff, Nat.reduceLT, Nat.reduceBEq, Nat.reduceSub, EE.down]
      obtain ⟨a9, ha9, h⟩ := Option.bind_eq_some_iff.1 h
      refine t_app (enc := eRequirement) (xs := ([] : List Requirement)) rfl rfl (by first | rfl | simp only [List.length_set] | exact (clrL_len (slI_len (by assumption))).symm) rfl (rows_frz (enc := eRequirement) fun _ => rfl) ha9 ?_
      simp only [VW.down, Nat.reduceEqDiff, reduceCtorEq, Nat.reduceAdd, Nat.reduceLeDiff, Nat.reduceLT, Nat.reduceBEq, Nat.reduceSub, EE.down]
      obtain ⟨a10, ha10, h⟩ := Option.bind_eq_some_iff.1 h
      refine t_app (enc := eRequirement) (xs := a9) rfl rfl (by first | rfl | simp only [List.length_set] | exact (clrL_len (slI_len (by assumption))).symm) rfl (rows_frz (enc := eRequirement) fun _ => rfl) ha10 ?_
      simp only [VW.down, Nat.reduceEqDiff, reduceCtorEq, Nat.reduceAdd, Nat.reduceLeDiff, Nat.reduceLT, Nat.reduceBEq, Nat.reduceSub, EE.down]
      obtain ⟨o11, ho, h⟩ := Option.bind_eq_some_iff.1 h
      refine cutS (fun s => s = ⟨[(0, .one (.c (.d (.sl (x0.map eRequirement))))), (1, .one (.c (.d (.sl (x1.map eRequirement))))), (7, .one (.c (.own 0 0 0 (a10.length) none))), (50, .one (.c (.d (.v (.bool o11)))))], [some (.arr 0 3 (a10.map eRequirement))]⟩) ?_ ?_
      · have h := ho
        clear ho
        simp only [VW.down, Nat.reduceEqDiff, reduceCtorEq, Nat.reduceAdd, Nat.reduceLeDiff, Nat.reduceLT, Nat.reduceBEq, Nat.reduceSub, EE.down]
        obtain ⟨t12, ht12, h⟩ := Option.bind_eq_some_iff.1 h
        refine callX_bor (F22_ok ht12) (by simp only [borAs, bors, hp, List.getElem?_cons_zero, List.getElem?_cons_succ, Option.join_some, List.drop_zero, bor_full', true_and, Nat.zero_add, List.length_map, Nat.le_refl, nrm, List.length_cons, List.length_nil, Nat.reduceAdd, Nat.reduceLeDiff, List.take_succ_cons, List.take_zero, List.take_nil, List.map_cons, List.map_nil, List.length_set, EE.down]) rfl ?_
        simp only [VW.down, Nat.reduceEqDiff, reduceCtorEq, Nat.reduceAdd, Nat.reduceLeDiff, Nat.reduceLT, Nat.reduceBEq, Nat.reduceSub, EE.down]
        obtain ⟨t13, ht13, h⟩ := Option.bind_eq_some_iff.1 h
        refine callX_n [] (F22_ok ht13) ?_ ?_ ?_ ?_ ?_ ?_
        · first | rfl | simp [nrmA, nrmC, nrm, A1.ren, C.ren, rn, List.length_set]
        · simp [liveAll, A1.live, C.live]
        · rfl
        · decide
        · exact trivial
        simp only [VW.down, Nat.reduceEqDiff, reduceCtorEq, Nat.reduceAdd, Nat.reduceLeDiff, Nat.reduceLT, Nat.reduceBEq, Nat.reduceSub, EE.down]
        refine guardSB (fun g14 => ?_) (fun g14 => ?_)
        · have h := (if_pos g14).symm.trans h
          simp only [VW.down, Nat.reduceEqDiff, reduceCtorEq, Nat.reduceAdd, Nat.reduceLeDiff, Nat.reduceLT, Nat.reduceBEq, Nat.reduceSub, EE.down]
          obtain ⟨t15, ht15, h⟩ := Option.bind_eq_some_iff.1 h
          refine callX_n [] (F22_ok ht15) ?_ ?_ ?_ ?_ ?_ ?_
          · first | rfl | simp [nrmA, nrmC, nrm, A1.ren, C.ren, rn, List.length_set]
          · simp [liveAll, A1.live, C.live]
          · rfl
          · decide
          · exact trivial
          simp only [VW.down, Nat.reduceEqDiff, reduceCtorEq, Nat.reduceAdd, Nat.reduceLeDiff, Nat.reduceLT, Nat.reduceBEq, Nat.reduceSub, EE.down]
          obtain rfl := Option.some.inj h
          exact eM [some 0] rfl
        · have h := (if_neg g14).symm.trans h
          simp only [VW.down, Nat.reduceEqDiff, reduceCtorEq, Nat.reduceAdd, Nat.reduceLeDiff, Nat.reduceLT, Nat.reduceBEq, Nat.reduceSub, EE.down]
          obtain rfl := Option.some.inj h
          exact eM [some 0] rfl
      · rintro _ rfl
        clear ho
        simp only [VW.down, Nat.reduceEqDiff, reduceCtorEq, Nat.reduceAdd, Nat.reduceLeDiff, Nat.reduceLT, Nat.reduceBEq, Nat.reduceSub, EE.down]
        refine condB (fun c16 => ?_) (fun c16 => ?_)
        · have h := (if_pos c16).symm.trans h
          simp only [VW.down, Nat.reduceEqDiff, reduceCtorEq, Nat.reduceAdd, Nat.reduceLeDiff, Nat.reduceLT, Nat.reduceBEq, Nat.reduceSub, EE.down]
          obtain rfl := Option.some.inj h
          exact eF []
        · have h := (if_neg c16).symm.trans h
          simp only [VW.down, Nat.reduceEqDiff, reduceCtorEq, Nat.reduceAdd, Nat.reduceLeDiff, Nat.reduceLT, Nat.reduceBEq, Nat.reduceSub, EE.down]
          obtain ⟨t17, ht17, h⟩ := Option.bind_eq_some_iff.1 h
          refine callX_n [] (F27_ok ht17) ?_ ?_ ?_ ?_ ?_ ?_
          · first | rfl | simp [nrmA, nrmC, nrm, A1.ren, C.ren, rn, List.length_set]
          · simp [liveAll, A1.live, C.live]
          · rfl
          · decide
          · exact trivial
          simp only [VW.down, Nat.reduceEqDiff, reduceCtorEq, Nat.reduceAdd, Nat.reduceLeDiff, Nat.reduceLT, Nat.reduceBEq, Nat.reduceSub, EE.down]
          obtain ⟨t18, ht18, h⟩ := Option.bind_eq_some_iff.1 h
          refine callX_n [] (F27_ok ht18) ?_ ?_ ?_ ?_ ?_ ?_
          · first | rfl | simp [nrmA, nrmC, nrm, A1.ren, C.ren, rn, List.length_set]
          · simp [liveAll, A1.live, C.live]
          · rfl
          · decide
          · exact trivial
          simp only [VW.down, Nat.reduceEqDiff, reduceCtorEq, Nat.reduceAdd, Nat.reduceLeDiff, Nat.reduceLT, Nat.reduceBEq, Nat.reduceSub, EE.down]
          obtain ⟨o19, ho, h⟩ := Option.bind_eq_some_iff.1 h
          refine cutS (fun s => s = ⟨[(7, .one (.c (.own 0 0 0 (a10.length) none))), (8, .one (.c (.d (.v (.string t17.1))))), (10, .one (.c (.d (.v (.string t18.1))))), (89, .one (.c (.d (.v (.bool o19)))))], [some (.arr 0 3 (a10.map eRequirement))]⟩) ?_ ?_
          · have h := ho
            clear ho
            simp only [VW.down, Nat.reduceEqDiff, reduceCtorEq, Nat.reduceAdd, Nat.reduceLeDiff, Nat.reduceLT, Nat.reduceBEq, Nat.reduceSub, EE.down]
            refine guardS (fun g20 => ?_) (fun g20 => ?_)
            · have h := (if_pos g20).symm.trans h
              simp only [VW.down, Nat.reduceEqDiff, reduceCtorEq, Nat.reduceAdd, Nat.reduceLeDiff, Nat.reduceLT, Nat.reduceBEq, Nat.reduceSub, EE.down]
              refine guardS (fun g21 => ?_) (fun g21 => ?_)
              · have h := (if_pos g21).symm.trans h
                simp only [VW.down, Nat.reduceEqDiff, reduceCtorEq, Nat.reduceAdd, Nat.reduceLeDiff, Nat.reduceLT, Nat.reduceBEq, Nat.reduceSub, EE.down]
                refine guardS (fun g22 => ?_) (fun g22 => ?_)
                · have h := (if_pos g22).symm.trans h
                  simp only [VW.down, Nat.reduceEqDiff, reduceCtorEq, Nat.reduceAdd, Nat.reduceLeDiff, Nat.reduceLT, Nat.reduceBEq, Nat.reduceSub, EE.down]
                  refine guardS (fun g23 => ?_) (fun g23 => ?_)
                  · have h := (if_pos g23).symm.trans h
                    simp only [VW.down, Nat.reduceEqDiff, reduceCtorEq, Nat.reduceAdd, Nat.reduceLeDiff, Nat.reduceLT, Nat.reduceBEq, Nat.reduceSub, EE.down]
                    refine guardS (fun g24 => ?_) (fun g24 => ?_)
                    · have h := (if_pos g24).symm.trans h
                      simp only [VW.down, Nat.reduceEqDiff, reduceCtorEq, Nat.reduceAdd, Nat.reduceLeDiff, Nat.reduceLT, Nat.reduceBEq, Nat.reduceSub, EE.down]
                      obtain rfl := Option.some.inj h
                      exact eM [some 0] rfl
                    · have h := (if_neg g24).symm.trans h
                      simp only [VW.down, Nat.reduceEqDiff, reduceCtorEq, Nat.reduceAdd, Nat.reduceLeDiff, Nat.reduceLT, Nat.reduceBEq, Nat.reduceSub, EE.down]
                      obtain rfl := Option.some.inj h
                      exact eM [some 0] rfl
                  · have h := (if_neg g23).symm.trans h
                    simp only [VW.down, Nat.reduceEqDiff, reduceCtorEq, Nat.reduceAdd, Nat.reduceLeDiff, Nat.reduceLT, Nat.reduceBEq, Nat.reduceSub, EE.down]
                    obtain rfl := Option.some.inj h
                    exact eM [some 0] rfl
                · have h := (if_neg g22).symm.trans h
                  simp only [VW.down, Nat.reduceEqDiff, reduceCtorEq, Nat.reduceAdd, Nat.reduceLeDiff, Nat.reduceLT, Nat.reduceBEq, Nat.reduceSub, EE.down]
                  obtain rfl := Option.some.inj h
                  exact eM [some 0] rfl
              · have h := (if_neg g21).symm.trans h
                simp only [VW.down, Nat.reduceEqDiff, reduceCtorEq, Nat.reduceAdd, Nat.reduceLeDiff, Nat.reduceLT, Nat.reduceBEq, Nat.reduceSub, EE.down]
                obtain rfl := Option.some.inj h
                exact eM [some 0] rfl
            · have h := (if_neg g20).symm.trans h
              simp only [VW.down, Nat.reduceEqDiff, reduceCtorEq, Nat.reduceAdd, Nat.reduceLeDiff, Nat.reduceLT, Nat.reduceBEq, Nat.reduceSub, EE.down]
              obtain rfl := Option.some.inj h
              exact eM [some 0] rfl
          · rintro _ rfl
            clear ho
            simp only [VW.down, Nat.reduceEqDiff, reduceCtorEq, Nat.reduceAdd, Nat.reduceLeDiff, Nat.reduceLT, Nat.reduceBEq, Nat.reduceSub, EE.down]
            refine condB (fun c25 => ?_) (fun c25 => ?_)
            · have h := (if_pos c25).symm.trans h
              simp only [VW.down, Nat.reduceEqDiff, reduceCtorEq, Nat.reduceAdd, Nat.reduceLeDiff, Nat.reduceLT, Nat.reduceBEq, Nat.reduceSub, EE.down]
              obtain ⟨s26, hs26, h⟩ := Option.bind_eq_some_iff.1 h
              obtain ⟨hle, es26⟩ := cat_some hs26
              refine ⟨hle, ?_⟩
              first | rw [← es26] | subst es26
              try simp only [VW.down, Nat.reduceEqDiff, reduceCtorEq, Nat.reduceAdd, Nat.reduceLeDiff, Nat.reduceLT, Nat.reduceBEq, Nat.reduceSub, EE.down]
              obtain ⟨s27, hs27, h⟩ := Option.bind_eq_some_iff.1 h
              obtain ⟨hle, es27⟩ := cat_some hs27
              refine ⟨hle, ?_⟩
              first | rw [← es27] | subst es27
              try simp only [VW.down, Nat.reduceEqDiff, reduceCtorEq, Nat.reduceAdd, Nat.reduceLeDiff, Nat.reduceLT, Nat.reduceBEq, Nat.reduceSub, EE.down]
              obtain ⟨t28, ht28, h⟩ := Option.bind_eq_some_iff.1 h
              refine callX_n [] (F24_ok ht28) ?_ ?_ ?_ ?_ ?_ ?_
              · first | rfl | simp [nrmA, nrmC, nrm, A1.ren, C.ren, rn, List.length_set]
              · simp [liveAll, A1.live, C.live]
              · rfl
              · decide
              · exact trivial
              simp only [VW.down, Nat.reduceEqDiff, reduceCtorEq, Nat.reduceAdd, Nat.reduceLeDiff, Nat.reduceLT, Nat.reduceBEq, Nat.reduceSub, EE.down]
              obtain ⟨o29, ho, h⟩ := Option.bind_eq_some_iff.1 h
              refine cutS (fun s => s = ⟨[(6, .one (.c (.d (.v (.bool o29)))))], []⟩) ?_ ?_
              · have h := ho
                clear ho
                simp only [VW.down, Nat.reduceEqDiff, reduceCtorEq, Nat.reduceAdd, Nat.reduceLeDiff, Nat.reduceLT, Nat.reduceBEq, Nat.reduceSub, EE.down]
                refine guardS (fun g30 => ?_) (fun g30 => ?_)
                · have h := (if_pos g30).symm.trans h
                  simp only [VW.down, Nat.reduceEqDiff, reduceCtorEq, Nat.reduceAdd, Nat.reduceLeDiff, Nat.reduceLT, Nat.reduceBEq, Nat.reduceSub, EE.down]
                  obtain ⟨t31, ht31, h⟩ := Option.bind_eq_some_iff.1 h
                  refine callX_bor (F26_ok ht31) (by simp only [borAs, bors, hp, List.getElem?_cons_zero, List.getElem?_cons_succ, Option.join_some, List.drop_zero, bor_full', true_and, Nat.zero_add, List.length_map, Nat.le_refl, nrm, List.length_cons, List.length_nil, Nat.reduceAdd, Nat.reduceLeDiff, List.take_succ_cons, List.take_zero, List.take_nil, List.map_cons, List.map_nil, List.length_set, EE.down]) rfl ?_
                  simp only [VW.down, Nat.reduceEqDiff, reduceCtorEq, Nat.reduceAdd, Nat.reduceLeDiff, Nat.reduceLT, Nat.reduceBEq, Nat.reduceSub, EE.down]
                  refine guardSB (fun g32 => ?_) (fun g32 => ?_)
                  · have h := (if_pos g32).symm.trans h
                    simp only [VW.down, Nat.reduceEqDiff, reduceCtorEq, Nat.reduceAdd, Nat.reduceLeDiff, Nat.reduceLT, Nat.reduceBEq, Nat.reduceSub, EE.down]
                    obtain ⟨t33, ht33, h⟩ := Option.bind_eq_some_iff.1 h
                    refine callX_n [] (F12_ok ht33) ?_ ?_ ?_ ?_ ?_ ?_
                    · first | rfl | simp [nrmA, nrmC, nrm, A1.ren, C.ren, rn, List.length_set]
                    · simp [liveAll, A1.live, C.live]
                    · rfl
                    · decide
                    · exact trivial
                    simp only [VW.down, Nat.reduceEqDiff, reduceCtorEq, Nat.reduceAdd, Nat.reduceLeDiff, Nat.reduceLT, Nat.reduceBEq, Nat.reduceSub, EE.down]
                    obtain rfl := Option.some.inj h
                    exact eM [] rfl
                  · have h := (if_neg g32).symm.trans h
                    simp only [VW.down, Nat.reduceEqDiff, reduceCtorEq, Nat.reduceAdd, Nat.reduceLeDiff, Nat.reduceLT, Nat.reduceBEq, Nat.reduceSub, EE.down]
                    obtain rfl := Option.some.inj h
                    exact eM [] rfl
                · have h := (if_neg g30).symm.trans h
                  simp only [VW.down, Nat.reduceEqDiff, reduceCtorEq, Nat.reduceAdd, Nat.reduceLeDiff, Nat.reduceLT, Nat.reduceBEq, Nat.reduceSub, EE.down]
                  obtain rfl := Option.some.inj h
                  exact eM [] rfl
              · rintro _ rfl
                clear ho
                simp only [VW.down, Nat.reduceEqDiff, reduceCtorEq, Nat.reduceAdd, Nat.reduceLeDiff, Nat.reduceLT, Nat.reduceBEq, Nat.reduceSub, EE.down]
                obtain rfl := Option.some.inj h
                exact eF []
            · have h := (if_neg c25).symm.trans h
              simp only [VW.down, Nat.reduceEqDiff, reduceCtorEq, Nat.reduceAdd, Nat.reduceLeDiff, Nat.reduceLT, Nat.reduceBEq, Nat.reduceSub, EE.down]
              obtain ⟨t34, ht34, h⟩ := Option.bind_eq_some_iff.1 h
              refine callX_n [] (F12_ok ht34) ?_ ?_ ?_ ?_ ?_ ?_
              · first | rfl | simp [nrmA, nrmC, nrm, A1.ren, C.ren, rn, List.length_set]
              · simp [liveAll, A1.live, C.live]
              · rfl
              · decide
              · exact trivial
              simp only [VW.down, Nat.reduceEqDiff, reduceCtorEq, Nat.reduceAdd, Nat.reduceLeDiff, Nat.reduceLT, Nat.reduceBEq, Nat.reduceSub, EE.down]
              obtain rfl := Option.some.inj h
              exact eF []

end Go.Proofs.Ytadhmlfnfgpjjaa
