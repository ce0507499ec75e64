/- Each Go function as a function over typed data, and its walk. -/
import Derived.Test.YtadhmlfnfgpjjaaGX2
namespace Go.Proofs.Ytadhmlfnfgpjjaa
open Go Go.Fw Go.Shelf
set_option maxRecDepth 100000
set_option maxHeartbeats 4000000
set_option linter.unusedSimpArgs false
set_option linter.unusedVariables false
/- orchestrator/orchestratorref03.SameStrings -/
def F47_l2 (x1 : (List ByteArray)) : List ByteArray → Nat → Option ((Bool) ⊕ (Unit))
  | [], o2_0 => some (Sum.inr (()))
  | xo2 :: xs, o2_0 => (rdI x1 ((o2_0 : Int))).bind fun y4 => (if ¬ (xo2 = y4) then (some false).map Sum.inl else F47_l2 x1 xs (o2_0 + 1))
def F47 (x0 : (List ByteArray)) (x1 : (List ByteArray)) : Option (Bool) := (if ¬ ((x0.length : Int) = (x1.length : Int)) then some false else (((ck (0 ≤ x0.length ∧ x0.length ≤ 4294967290)).bind fun u6 => F47_l2 x1 x0 0 : Option ((Bool) ⊕ (Unit))).bind fun o2 => match o2 with | Sum.inl f => some f | Sum.inr po2 => some true))
def a47 : AFn := ⟨26, [(.tmp 4)],
 (.seq (.reg [⟨(some 4), none, .mv (kB false), [], (.new [])⟩])
 (.seq (.seq (.reg [⟨(some 6), none, .mv (.t 0), [], (.new [])⟩,
   ⟨(some 7), none, .len (.t 6), [], (.new [])⟩,
   ⟨(some 8), none, .mv (.t 1), [], (.new [])⟩,
   ⟨(some 9), none, .len (.t 8), [], (.new [])⟩,
   ⟨(some 10), none, .bin .neq (.t 7) (.t 9), [], (.new [])⟩])
 (.cond (.t 10)
 (.seq (.reg [⟨(some 4), none, .mv (kB false), [], (.new [])⟩])
 .ret)
 .skip))
 (.seq (.seq (.reg [⟨(some 5), none, .mv (kI 0), [], (.new [])⟩])
 (.sem (.block 0 (.loop (.seq (.seq (.reg [⟨(some 11), none, .mv (.t 5), [], (.new [])⟩,
   ⟨(some 12), none, .mv (.t 0), [], (.new [])⟩,
   ⟨(some 13), none, .len (.t 12), [], (.new [])⟩,
   ⟨(some 14), none, .bin .lss (.t 11) (.t 13), [], (.new [])⟩])
 (.cond (.t 14)
 .skip
 (.exit 0)))
 (.seq (.block 1 (.seq (.regd [⟨(some 17), none, .mv (.t 0), [], (.new [])⟩,
   ⟨(some 18), none, .mv (.t 5), [], (.new [])⟩,
   ⟨(some 19), none, .indexA 1 (.t 17) (.t 18), [0, 1], (.new [])⟩,
   ⟨(some 20), none, .load none (.t 19), [0, 1, 2], (.new [])⟩,
   ⟨(some 21), none, .mv (.t 1), [], (.new [])⟩,
   ⟨(some 22), none, .mv (.t 5), [], (.new [])⟩,
   ⟨(some 23), none, .indexA 1 (.t 21) (.t 22), [4, 5], (.new [])⟩,
   ⟨(some 24), none, .load none (.t 23), [4, 5, 6], (.new [])⟩,
   ⟨(some 25), none, .bin .neq (.t 20) (.t 24), [0, 1, 2, 3, 4, 5, 6, 7], (.new [])⟩])
 (.cond (.t 25)
 (.seq (.reg [⟨(some 4), none, .mv (kB false), [], (.new [])⟩])
 .ret)
 .skip)))
 (.reg [⟨(some 15), none, .mv (.t 5), [], (.new [])⟩,
   ⟨(some 16), none, .bin .add (.t 15) (kI 1), [], (.new [])⟩,
   ⟨(some 5), none, .mv (.t 16), [], (.new [])⟩])))))))
 (.seq (.reg [⟨(some 4), none, .mv (kB true), [], (.new [])⟩])
 .ret))))⟩
theorem a47_ok : afn Try.prog 47 = some a47.er := by kernel_rfl
theorem F47_ok {x0 : (List ByteArray)} {x1 : (List ByteArray)} {r : Bool} (h : F47 x0 x1 = some r) : CallD Try.prog 47 [.c (.d (.sl (x0.map eS))), .c (.d (.sl (x1.map eS)))] [] (tupV [.c (.d (.v (.bool r)))]) [] := by
  refine callS a47_ok (by simp [a47]) ?_
  rw [F47] at h
  simp only [a47, VW.down, Nat.reduceEqDiff, reduceCtorEq, Nat.reduceAdd, Nat.reduceLeDiff, Nat.reduceLT, Nat.reduceBEq, Nat.reduceSub, EE.down]
  refine condS (fun c1 => ?_) (fun c1 => ?_)
  · have h := (if_pos c1).symm.trans h
    simp only [VW.down, Nat.reduceEqDiff, reduceCtorEq, Nat.reduceAdd, Nat.reduceLeDiff, Nat.reduceLT, Nat.reduceBEq, Nat.reduceSub, EE.down]
    obtain rfl := Option.some.inj h
    exact eF []
  · have h := (if_neg c1).symm.trans h
    simp only [VW.down, Nat.reduceEqDiff, reduceCtorEq, Nat.reduceAdd, Nat.reduceLeDiff, Nat.reduceLT, Nat.reduceBEq, Nat.reduceSub, EE.down]
    obtain ⟨o2, ho, h⟩ := Option.bind_eq_some_iff.1 h
    refine cutS (fun s => ∃ po2, o2 = Sum.inr po2 ∧ s = ⟨[], []⟩) ?_ ?_
    · have h0o2 := h
      have h := ho
      clear ho
      obtain ⟨_, hk, h⟩ := Option.bind_eq_some_iff.1 h
      have hk := ck_some hk
      simp only [VW.down, Nat.reduceEqDiff, reduceCtorEq, Nat.reduceAdd, Nat.reduceLeDiff, Nat.reduceLT, Nat.reduceBEq, Nat.reduceSub, EE.down]
      refine bL (fun j s => ∃ (o2_0 : Nat), (o2_0 ≤ x0.length ∧ j = x0.length - o2_0) ∧ s = ⟨[(0, .one (.c (.d (.sl (x0.map eS))))), (1, .one (.c (.d (.sl (x1.map eS))))), (5, .one (.c (.d (.v (.int .i64 ((o2_0 : Int)))))))], []⟩ ∧ F47_l2 x1 (x0.drop o2_0) o2_0 = some o2) (x0.length - 0) [] ⟨0, ⟨hk.1, rfl⟩, rfl, h⟩ ?_
      rintro _ _ ⟨o2_0, ⟨hi, rfl⟩, rfl, h⟩
      simp only [VW.down, Nat.reduceEqDiff, reduceCtorEq, Nat.reduceAdd, Nat.reduceLeDiff, Nat.reduceLT, Nat.reduceBEq, Nat.reduceSub, EE.down]
      refine condS (fun c3 => ?_) (fun c3 => ?_)
      · obtain ⟨xo2, hxo2, hd⟩ := countY (show (o2_0 : Int) < (x0.length : Int) from c3)
        rw [hd, F47_l2] at h
        simp only [VW.down, Nat.reduceEqDiff, reduceCtorEq, Nat.reduceAdd, Nat.reduceLeDiff, Nat.reduceLT, Nat.reduceBEq, Nat.reduceSub, EE.down]
        refine t_idxF (enc := eS) (xs := x0) rfl rfl hxo2 rfl ?_
        simp only [VW.down, Nat.reduceEqDiff, reduceCtorEq, Nat.reduceAdd, Nat.reduceLeDiff, Nat.reduceLT, Nat.reduceBEq, Nat.reduceSub, EE.down]
        obtain ⟨y4, hy4, h⟩ := Option.bind_eq_some_iff.1 h
        refine t_idxF (enc := eS) (xs := x1) rfl rfl hy4 rfl ?_
        simp only [VW.down, Nat.reduceEqDiff, reduceCtorEq, Nat.reduceAdd, Nat.reduceLeDiff, Nat.reduceLT, Nat.reduceBEq, Nat.reduceSub, EE.down]
        refine condS (fun c5 => ?_) (fun c5 => ?_)
        · have h := (if_pos c5).symm.trans h
          simp only [VW.down, Nat.reduceEqDiff, reduceCtorEq, Nat.reduceAdd, Nat.reduceLeDiff, Nat.reduceLT, Nat.reduceBEq, Nat.reduceSub, EE.down]
          obtain ⟨fh0o2, hfh0o2, rfl⟩ := Option.map_eq_some_iff.1 h
          have h := hfh0o2.trans h0o2
          obtain rfl := Option.some.inj h
          exact eF []
        · have h := (if_neg c5).symm.trans h
          simp only [VW.down, Nat.reduceEqDiff, reduceCtorEq, Nat.reduceAdd, Nat.reduceLeDiff, Nat.reduceLT, Nat.reduceBEq, Nat.reduceSub, EE.down]
          rw [wrapN (by omega)]
          exact eL' (x0.length - (o2_0 + 1)) [] ⟨o2_0 + 1, ⟨by omega, rfl⟩, rfl, h⟩ (by omega)
      · rw [countN (show ¬ ((o2_0 : Int) < (x0.length : Int)) from c3), F47_l2] at h
        simp only [VW.down, Nat.reduceEqDiff, reduceCtorEq, Nat.reduceAdd, Nat.reduceLeDiff, Nat.reduceLT, Nat.reduceBEq, Nat.reduceSub, EE.down]
        obtain rfl := Option.some.inj h
        exact eM [] ⟨_, rfl, rfl⟩
    · rintro _ ⟨po2, rfl, rfl⟩
      clear ho
      dsimp only at h
      simp only [VW.down, Nat.reduceEqDiff, reduceCtorEq, Nat.reduceAdd, Nat.reduceLeDiff, Nat.reduceLT, Nat.reduceBEq, Nat.reduceSub, EE.down]
      obtain rfl := Option.some.inj h
      exact eF []

/- orchestrator/orchestratorref03.SameSelector -/
def F26_l2 (x1 : (List Requirement)) : List Requirement → Nat → Option ((Bool) ⊕ (Unit))
  | [], o2_0 => some (Sum.inr (()))
  | xo2 :: xs, o2_0 => (((rdI x1 ((o2_0 : Int))).bind fun y5 => (if ¬ (xo2.Key = y5.Key) then some true else (if ¬ (xo2.Op = y5.Op) then some true else (F47 xo2.Values y5.Values).bind fun t8 => some (nb t8)))).bind fun o4 => (if o4 = true then (some false).map Sum.inl else F26_l2 x1 xs (o2_0 + 1)))
def F26 (x0 : (List Requirement)) (x1 : (List Requirement)) : Option (Bool) := (if ¬ ((x0.length : Int) = (x1.length : Int)) then some false else (((ck (0 ≤ x0.length ∧ x0.length ≤ 4294967290)).bind fun u10 => F26_l2 x1 x0 0 : Option ((Bool) ⊕ (Unit))).bind fun o2 => match o2 with | Sum.inl f => some f | Sum.inr po2 => some true))
def a26 : AFn := ⟨55, [(.tmp 4)],
 (.seq (.reg [⟨(some 4), none, .mv (kB false), [], (.new [])⟩])
 (.seq (.seq (.reg [⟨(some 6), none, .mv (.t 0), [], (.new [])⟩,
   ⟨(some 7), none, .len (.t 6), [], (.new [])⟩,
   ⟨(some 8), none, .mv (.t 1), [], (.new [])⟩,
   ⟨(some 9), none, .len (.t 8), [], (.new [])⟩,
   ⟨(some 10), none, .bin .neq (.t 7) (.t 9), [], (.new [])⟩])
 (.cond (.t 10)
 (.seq (.reg [⟨(some 4), none, .mv (kB false), [], (.new [])⟩])
 .ret)
 .skip))
 (.seq (.seq (.reg [⟨(some 5), none, .mv (kI 0), [], (.new [])⟩])
 (.sem (.block 0 (.loop (.seq (.seq (.reg [⟨(some 11), none, .mv (.t 5), [], (.new [])⟩,
   ⟨(some 12), none, .mv (.t 0), [], (.new [])⟩,
   ⟨(some 13), none, .len (.t 12), [], (.new [])⟩,
   ⟨(some 14), none, .bin .lss (.t 11) (.t 13), [], (.new [])⟩])
 (.cond (.t 14)
 .skip
 (.exit 0)))
 (.seq (.block 1 (.seq (.sem (.regd [⟨(some 17), none, .mv (.t 0), [], (.new [])⟩,
   ⟨(some 18), none, .mv (.t 5), [], (.new [])⟩,
   ⟨(some 19), none, .indexA 3 (.t 17) (.t 18), [0, 1], (.new [])⟩,
   ⟨(some 20), none, .fieldA 0 (.t 19), [0, 1, 2], (.new [])⟩,
   ⟨(some 21), none, .load none (.t 20), [0, 1, 2, 3], (.new [])⟩,
   ⟨(some 22), none, .mv (.t 1), [], (.new [])⟩,
   ⟨(some 23), none, .mv (.t 5), [], (.new [])⟩,
   ⟨(some 24), none, .indexA 3 (.t 22) (.t 23), [5, 6], (.new [])⟩,
   ⟨(some 25), none, .fieldA 0 (.t 24), [5, 6, 7], (.new [])⟩,
   ⟨(some 26), none, .load none (.t 25), [5, 6, 7, 8], (.new [])⟩,
   ⟨(some 27), none, .bin .neq (.t 21) (.t 26), [0, 1, 2, 3, 4, 5, 6, 7, 8, 9], (.new [])⟩,
   ⟨(some 28), none, .mv (.t 27), [0, 1, 2, 3, 4, 5, 6, 7, 8, 9, 10], (.new [])⟩,
   ⟨(some 29), (some (28, false)), .mv (.t 0), [0, 1, 2, 3, 4, 5, 6, 7, 8, 9, 10, 11], (.new [])⟩,
   ⟨(some 30), (some (28, false)), .mv (.t 5), [0, 1, 2, 3, 4, 5, 6, 7, 8, 9, 10, 11], (.new [])⟩,
   ⟨(some 31), (some (28, false)), .indexA 3 (.t 29) (.t 30), [0, 1, 2, 3, 4, 5, 6, 7, 8, 9, 10, 11, 12, 13], (.new [])⟩,
   ⟨(some 32), (some (28, false)), .fieldA 1 (.t 31), [0, 1, 2, 3, 4, 5, 6, 7, 8, 9, 10, 11, 12, 13, 14], (.new [])⟩,
   ⟨(some 33), (some (28, false)), .load none (.t 32), [0, 1, 2, 3, 4, 5, 6, 7, 8, 9, 10, 11, 12, 13, 14, 15], (.new [])⟩,
   ⟨(some 34), (some (28, false)), .mv (.t 1), [0, 1, 2, 3, 4, 5, 6, 7, 8, 9, 10, 11], (.new [])⟩,
   ⟨(some 35), (some (28, false)), .mv (.t 5), [0, 1, 2, 3, 4, 5, 6, 7, 8, 9, 10, 11], (.new [])⟩,
   ⟨(some 36), (some (28, false)), .indexA 3 (.t 34) (.t 35), [0, 1, 2, 3, 4, 5, 6, 7, 8, 9, 10, 11, 17, 18], (.new [])⟩,
   ⟨(some 37), (some (28, false)), .fieldA 1 (.t 36), [0, 1, 2, 3, 4, 5, 6, 7, 8, 9, 10, 11, 17, 18, 19], (.new [])⟩,
   ⟨(some 38), (some (28, false)), .load none (.t 37), [0, 1, 2, 3, 4, 5, 6, 7, 8, 9, 10, 11, 17, 18, 19, 20], (.new [])⟩,
   ⟨(some 39), (some (28, false)), .bin .neq (.t 33) (.t 38), [0, 1, 2, 3, 4, 5, 6, 7, 8, 9, 10, 11, 12, 13, 14, 15, 16, 17, 18, 19, 20, 21], (.new [])⟩,
   ⟨(some 40), none, .pick (.t 28) (kB true) (.t 39), [0, 1, 2, 3, 4, 5, 6, 7, 8, 9, 10, 11, 12, 13, 14, 15, 16, 17, 18, 19, 20, 21, 22], (.lone [])⟩,
   ⟨(some 41), none, .mv (.t 40), [0, 1, 2, 3, 4, 5, 6, 7, 8, 9, 10, 11, 12, 13, 14, 15, 16, 17, 18, 19, 20, 21, 22, 23], (.new [])⟩,
   ⟨(some 42), (some (41, false)), .mv (.t 0), [0, 1, 2, 3, 4, 5, 6, 7, 8, 9, 10, 11, 12, 13, 14, 15, 16, 17, 18, 19, 20, 21, 22, 23, 24], (.new [])⟩,
   ⟨(some 43), (some (41, false)), .mv (.t 5), [0, 1, 2, 3, 4, 5, 6, 7, 8, 9, 10, 11, 12, 13, 14, 15, 16, 17, 18, 19, 20, 21, 22, 23, 24], (.new [])⟩,
   ⟨(some 44), (some (41, false)), .indexA 3 (.t 42) (.t 43), [0, 1, 2, 3, 4, 5, 6, 7, 8, 9, 10, 11, 12, 13, 14, 15, 16, 17, 18, 19, 20, 21, 22, 23, 24, 25, 26], (.new [])⟩,
   ⟨(some 45), (some (41, false)), .fieldA 2 (.t 44), [0, 1, 2, 3, 4, 5, 6, 7, 8, 9, 10, 11, 12, 13, 14, 15, 16, 17, 18, 19, 20, 21, 22, 23, 24, 25, 26, 27], (.new [])⟩,
   ⟨(some 46), (some (41, false)), .load none (.t 45), [0, 1, 2, 3, 4, 5, 6, 7, 8, 9, 10, 11, 12, 13, 14, 15, 16, 17, 18, 19, 20, 21, 22, 23, 24, 25, 26, 27, 28], (.new [])⟩,
   ⟨(some 47), (some (41, false)), .mv (.t 1), [0, 1, 2, 3, 4, 5, 6, 7, 8, 9, 10, 11, 12, 13, 14, 15, 16, 17, 18, 19, 20, 21, 22, 23, 24], (.new [])⟩,
   ⟨(some 48), (some (41, false)), .mv (.t 5), [0, 1, 2, 3, 4, 5, 6, 7, 8, 9, 10, 11, 12, 13, 14, 15, 16, 17, 18, 19, 20, 21, 22, 23, 24], (.new [])⟩,
   ⟨(some 49), (some (41, false)), .indexA 3 (.t 47) (.t 48), [0, 1, 2, 3, 4, 5, 6, 7, 8, 9, 10, 11, 12, 13, 14, 15, 16, 17, 18, 19, 20, 21, 22, 23, 24, 30, 31], (.new [])⟩,
   ⟨(some 50), (some (41, false)), .fieldA 2 (.t 49), [0, 1, 2, 3, 4, 5, 6, 7, 8, 9, 10, 11, 12, 13, 14, 15, 16, 17, 18, 19, 20, 21, 22, 23, 24, 30, 31, 32], (.new [])⟩,
   ⟨(some 51), (some (41, false)), .load none (.t 50), [0, 1, 2, 3, 4, 5, 6, 7, 8, 9, 10, 11, 12, 13, 14, 15, 16, 17, 18, 19, 20, 21, 22, 23, 24, 30, 31, 32, 33], (.new [])⟩,
   ⟨(some 52), (some (41, false)), .call 47 [(.t 46), (.t 51)], [0, 1, 2, 3, 4, 5, 6, 7, 8, 9, 10, 11, 12, 13, 14, 15, 16, 17, 18, 19, 20, 21, 22, 23, 24, 25, 26, 27, 28, 29, 30, 31, 32, 33, 34], (.lone [])⟩,
   ⟨(some 53), (some (41, false)), .not (.t 52), [0, 1, 2, 3, 4, 5, 6, 7, 8, 9, 10, 11, 12, 13, 14, 15, 16, 17, 18, 19, 20, 21, 22, 23, 24, 25, 26, 27, 28, 29, 30, 31, 32, 33, 34, 35], (.new [])⟩,
   ⟨(some 54), none, .pick (.t 41) (kB true) (.t 53), [0, 1, 2, 3, 4, 5, 6, 7, 8, 9, 10, 11, 12, 13, 14, 15, 16, 17, 18, 19, 20, 21, 22, 23, 24, 25, 26, 27, 28, 29, 30, 31, 32, 33, 34, 35, 36], (.lone [])⟩]))
 (.cond (.t 54)
 (.seq (.reg [⟨(some 4), none, .mv (kB false), [], (.new [])⟩])
 .ret)
 .skip)))
 (.reg [⟨(some 15), none, .mv (.t 5), [], (.new [])⟩,
   ⟨(some 16), none, .bin .add (.t 15) (kI 1), [], (.new [])⟩,
   ⟨(some 5), none, .mv (.t 16), [], (.new [])⟩])))))))
 (.seq (.reg [⟨(some 4), none, .mv (kB true), [], (.new [])⟩])
 .ret))))⟩
theorem a26_ok : afn Try.prog 26 = some a26.er := by kernel_rfl
theorem F26_ok {x0 : (List Requirement)} {x1 : (List Requirement)} {r : Bool} (h : F26 x0 x1 = some r) : CallD Try.prog 26 [.c (.d (.sl (x0.map eRequirement))), .c (.d (.sl (x1.map eRequirement)))] [] (tupV [.c (.d (.v (.bool r)))]) [] := by
  refine callS a26_ok (by simp [a26]) ?_
  rw [F26] at h
  simp only [a26, VW.down, Nat.reduceEqDiff, reduceCtorEq, Nat.reduceAdd, Nat.reduceLeDiff, Nat.reduceLT, Nat.reduceBEq, Nat.reduceSub, EE.down]
  refine condS (fun c1 => ?_) (fun c1 => ?_)
  · have h := (if_pos c1).symm.trans h
    simp only [VW.down, Nat.reduceEqDiff, reduceCtorEq, Nat.reduceAdd, Nat.reduceLeDiff, Nat.reduceLT, Nat.reduceBEq, Nat.reduceSub, EE.down]
    obtain rfl := Option.some.inj h
    exact eF []
  · have h := (if_neg c1).symm.trans h
    simp only [VW.down, Nat.reduceEqDiff, reduceCtorEq, Nat.reduceAdd, Nat.reduceLeDiff, Nat.reduceLT, Nat.reduceBEq, Nat.reduceSub, EE.down]
    obtain ⟨o2, ho, h⟩ := Option.bind_eq_some_iff.1 h
    refine cutS (fun s => ∃ po2, o2 = Sum.inr po2 ∧ s = ⟨[], []⟩) ?_ ?_
    · have h0o2 := h
      have h := ho
      clear ho
      obtain ⟨_, hk, h⟩ := Option.bind_eq_some_iff.1 h
      have hk := ck_some hk
      simp only [VW.down, Nat.reduceEqDiff, reduceCtorEq, Nat.reduceAdd, Nat.reduceLeDiff, Nat.reduceLT, Nat.reduceBEq, Nat.reduceSub, EE.down]
      refine bL (fun j s => ∃ (o2_0 : Nat), (o2_0 ≤ x0.length ∧ j = x0.length - o2_0) ∧ s = ⟨[(0, .one (.c (.d (.sl (x0.map eRequirement))))), (1, .one (.c (.d (.sl (x1.map eRequirement))))), (5, .one (.c (.d (.v (.int .i64 ((o2_0 : Int)))))))], []⟩ ∧ F26_l2 x1 (x0.drop o2_0) o2_0 = some o2) (x0.length - 0) [] ⟨0, ⟨hk.1, rfl⟩, rfl, h⟩ ?_
      rintro _ _ ⟨o2_0, ⟨hi, rfl⟩, rfl, h⟩
      simp only [VW.down, Nat.reduceEqDiff, reduceCtorEq, Nat.reduceAdd, Nat.reduceLeDiff, Nat.reduceLT, Nat.reduceBEq, Nat.reduceSub, EE.down]
      refine condS (fun c3 => ?_) (fun c3 => ?_)
      · obtain ⟨xo2, hxo2, hd⟩ := countY (show (o2_0 : Int) < (x0.length : Int) from c3)
        rw [hd, F26_l2] at h
        simp only [VW.down, Nat.reduceEqDiff, reduceCtorEq, Nat.reduceAdd, Nat.reduceLeDiff, Nat.reduceLT, Nat.reduceBEq, Nat.reduceSub, EE.down]
        obtain ⟨o4, ho, h⟩ := Option.bind_eq_some_iff.1 h
        refine cutS (fun s => s = ⟨[(0, .one (.c (.d (.sl (x0.map eRequirement))))), (1, .one (.c (.d (.sl (x1.map eRequirement))))), (5, .one (.c (.d (.v (.int .i64 ((o2_0 : Int))))))), (54, .one (.c (.d (.v (.bool o4)))))], []⟩) ?_ ?_
        · have h := ho
          clear ho
          simp only [VW.down, Nat.reduceEqDiff, reduceCtorEq, Nat.reduceAdd, Nat.reduceLeDiff, Nat.reduceLT, Nat.reduceBEq, Nat.reduceSub, EE.down]
          refine t_idxF (enc := eRequirement) (xs := x0) rfl rfl hxo2 rfl ?_
          simp only [VW.down, Nat.reduceEqDiff, reduceCtorEq, Nat.reduceAdd, Nat.reduceLeDiff, Nat.reduceLT, Nat.reduceBEq, Nat.reduceSub, EE.down]
          obtain ⟨y5, hy5, h⟩ := Option.bind_eq_some_iff.1 h
          refine t_idxF (enc := eRequirement) (xs := x1) rfl rfl hy5 rfl ?_
          simp only [VW.down, Nat.reduceEqDiff, reduceCtorEq, Nat.reduceAdd, Nat.reduceLeDiff, Nat.reduceLT, Nat.reduceBEq, Nat.reduceSub, EE.down]
          refine guardD (fun g6 => ?_) (fun g6 => ?_)
          · have h := (if_pos g6).symm.trans h
            simp only [VW.down, Nat.reduceEqDiff, reduceCtorEq, Nat.reduceAdd, Nat.reduceLeDiff, Nat.reduceLT, Nat.reduceBEq, Nat.reduceSub, EE.down]
            obtain rfl := Option.some.inj h
            exact eM [] rfl
          · have h := (if_neg g6).symm.trans h
            simp only [VW.down, Nat.reduceEqDiff, reduceCtorEq, Nat.reduceAdd, Nat.reduceLeDiff, Nat.reduceLT, Nat.reduceBEq, Nat.reduceSub, EE.down]
            refine t_idxF (enc := eRequirement) (xs := x0) rfl rfl hxo2 rfl ?_
            simp only [VW.down, Nat.reduceEqDiff, reduceCtorEq, Nat.reduceAdd, Nat.reduceLeDiff, Nat.reduceLT, Nat.reduceBEq, Nat.reduceSub, EE.down]
            refine t_idxF (enc := eRequirement) (xs := x1) rfl rfl hy5 rfl ?_
            simp only [VW.down, Nat.reduceEqDiff, reduceCtorEq, Nat.reduceAdd, Nat.reduceLeDiff, Nat.reduceLT, Nat.reduceBEq, Nat.reduceSub, EE.down]
            refine guardD (fun g7 => ?_) (fun g7 => ?_)
            · have h := (if_pos g7).symm.trans h
              simp only [VW.down, Nat.reduceEqDiff, reduceCtorEq, Nat.reduceAdd, Nat.reduceLeDiff, Nat.reduceLT, Nat.reduceBEq, Nat.reduceSub, EE.down]
              obtain rfl := Option.some.inj h
              exact eM [] rfl
            · have h := (if_neg g7).symm.trans h
              simp only [VW.down, Nat.reduceEqDiff, reduceCtorEq, Nat.reduceAdd, Nat.reduceLeDiff, Nat.reduceLT, Nat.reduceBEq, Nat.reduceSub, EE.down]
              refine t_idxF (enc := eRequirement) (xs := x0) rfl rfl hxo2 rfl ?_
              simp only [VW.down, Nat.reduceEqDiff, reduceCtorEq, Nat.reduceAdd, Nat.reduceLeDiff, Nat.reduceLT, Nat.reduceBEq, Nat.reduceSub, EE.down]
              refine t_idxF (enc := eRequirement) (xs := x1) rfl rfl hy5 rfl ?_
              simp only [VW.down, Nat.reduceEqDiff, reduceCtorEq, Nat.reduceAdd, Nat.reduceLeDiff, Nat.reduceLT, Nat.reduceBEq, Nat.reduceSub, EE.down]
              obtain ⟨t8, ht8, h⟩ := Option.bind_eq_some_iff.1 h
              refine callX_n [] (F47_ok ht8) ?_ ?_ ?_ ?_ ?_ ?_
              · first | rfl | simp [nrmA, nrmC, nrm, A1.ren, C.ren, rn, List.length_set]
              · simp [liveAll, A1.live, C.live]
              · rfl
              · decide
              · exact trivial
              simp only [VW.down, Nat.reduceEqDiff, reduceCtorEq, Nat.reduceAdd, Nat.reduceLeDiff, Nat.reduceLT, Nat.reduceBEq, Nat.reduceSub, EE.down]
              obtain rfl := Option.some.inj h
              exact eM [] rfl
        · rintro _ rfl
          clear ho
          simp only [VW.down, Nat.reduceEqDiff, reduceCtorEq, Nat.reduceAdd, Nat.reduceLeDiff, Nat.reduceLT, Nat.reduceBEq, Nat.reduceSub, EE.down]
          refine condB (fun c9 => ?_) (fun c9 => ?_)
          · have h := (if_pos c9).symm.trans h
            simp only [VW.down, Nat.reduceEqDiff, reduceCtorEq, Nat.reduceAdd, Nat.reduceLeDiff, Nat.reduceLT, Nat.reduceBEq, Nat.reduceSub, EE.down]
            obtain ⟨fh0o2, hfh0o2, rfl⟩ := Option.map_eq_some_iff.1 h
            have h := hfh0o2.trans h0o2
            obtain rfl := Option.some.inj h
            exact eF []
          · have h := (if_neg c9).symm.trans h
            simp only [VW.down, Nat.reduceEqDiff, reduceCtorEq, Nat.reduceAdd, Nat.reduceLeDiff, Nat.reduceLT, Nat.reduceBEq, Nat.reduceSub, EE.down]
            rw [wrapN (by omega)]
            exact eL' (x0.length - (o2_0 + 1)) [] ⟨o2_0 + 1, ⟨by omega, rfl⟩, rfl, h⟩ (by omega)
      · rw [countN (show ¬ ((o2_0 : Int) < (x0.length : Int)) from c3), F26_l2] at h
        simp only [VW.down, Nat.reduceEqDiff, reduceCtorEq, Nat.reduceAdd, Nat.reduceLeDiff, Nat.reduceLT, Nat.reduceBEq, Nat.reduceSub, EE.down]
        obtain rfl := Option.some.inj h
        exact eM [] ⟨_, rfl, rfl⟩
    · rintro _ ⟨po2, rfl, rfl⟩
      clear ho
      dsimp only at h
      simp only [VW.down, Nat.reduceEqDiff, reduceCtorEq, Nat.reduceAdd, Nat.reduceLeDiff, Nat.reduceLT, Nat.reduceBEq, Nat.reduceSub, EE.down]
      obtain rfl := Option.some.inj h
      exact eF []

/- orchestrator/orchestratorlaw03.LabelRoundTrip -/
def F8_l12 (x1 : (List Label)) : List Requirement → Nat → Option ((Bool) ⊕ (Unit))
  | [], o12_0 => some (Sum.inr (()))
  | xo12 :: xs, o12_0 => (((((if xo12.Op = 1 then some (Sum.inr 2) else (if xo12.Op = 2 then some (Sum.inr 1) else (if xo12.Op = 3 then some (Sum.inr 4) else (if xo12.Op = 4 then some (Sum.inr 3) else (F22 ([xo12]) x1).bind fun t20 => (if t20 = true then (((some false).map Sum.inl).map Sum.inl).map Sum.inl else (some (Sum.inr (()))).map Sum.inl))))) : Option ((((Bool) ⊕ (Unit)) ⊕ (Unit)) ⊕ (Int))).bind fun o15 => match o15 with | Sum.inl f => some f | Sum.inr po15 => (F22 ([xo12]) x1).bind fun t22 => (F22 ([(⟨xo12.Key, po15, xo12.Values⟩ : Requirement)]) x1).bind fun t23 => (if (((t22 == t23) != false)) = true then ((some false).map Sum.inl).map Sum.inl else some (Sum.inr (())))) : Option (((Bool) ⊕ (Unit)) ⊕ (Unit))).bind fun o14 => match o14 with | Sum.inl f => some f | Sum.inr po14 => F8_l12 x1 xs (o12_0 + 1))
def F8 (x0 : (List Requirement)) (x1 : (List Label)) : Option (Bool) := (F11 x1 x0).bind fun t1 => (if (nb t1) = true then (F12).bind fun t3 => some t3 else (F27 x0).bind fun t4 => (((if t4.2 = 0 then (F24 t4.1).bind fun t7 => (((if ¬ (t7.2 = 0) then some true else (F26 t7.1 x0).bind fun t10 => some (nb t10))).bind fun o8 => (if o8 = true then (some false).map Sum.inl else some (Sum.inr (())))) else some (Sum.inr (()))) : Option ((Bool) ⊕ (Unit))).bind fun o5 => match o5 with | Sum.inl f => some f | Sum.inr po5 => (((ck (0 ≤ x0.length ∧ x0.length ≤ 4294967290)).bind fun u25 => F8_l12 x1 x0 0 : Option ((Bool) ⊕ (Unit))).bind fun o12 => match o12 with | Sum.inl f => some f | Sum.inr po12 => (F12).bind fun t26 => some t26)))
def a8 : AFn := ⟨73, [(.tmp 4)],
 (.seq (.reg [⟨(some 4), none, .mv (kB false), [], (.new [])⟩])
 (.seq (.seq (.reg [⟨(some 12), none, .mv (.t 1), [], (.new [])⟩,
   ⟨(some 13), none, .mv (.t 0), [], (.new [])⟩,
   ⟨(some 14), none, .call 11 [(.t 12), (.t 13)], [], (.new [])⟩,
   ⟨(some 15), none, .not (.t 14), [], (.new [])⟩])
 (.cond (.t 15)
 (.seq (.reg [⟨(some 16), none, .call 12 [], [], (.new [])⟩,
   ⟨(some 4), none, .mv (.t 16), [], (.new [])⟩])
 .ret)
 .skip))
 (.seq (.reg [⟨(some 18), none, .mv (.t 0), [], (.new [])⟩,
   ⟨(some 19), none, .call 27 [(.t 18)], [], (.new [])⟩,
   ⟨(some 17), none, .mv (.t 19), [], (.new [])⟩,
   ⟨(some 20), none, .ext (.t 17) 0, [], (.new [])⟩,
   ⟨(some 21), none, .ext (.t 17) 1, [], (.new [])⟩,
   ⟨(some 5), none, .mv (.t 20), [], (.new [])⟩,
   ⟨(some 6), none, .mv (.t 21), [], (.new [])⟩])
 (.seq (.sem (.seq (.reg [⟨(some 22), none, .mv (.t 6), [], (.new [])⟩,
   ⟨(some 23), none, .bin .eql (.t 22) (kI 0), [], (.new [])⟩])
 (.cond (.t 23)
 (.seq (.reg [⟨(some 25), none, .mv (.t 5), [], (.new [])⟩,
   ⟨(some 26), none, .call 24 [(.t 25)], [], (.new [])⟩,
   ⟨(some 24), none, .mv (.t 26), [], (.new [])⟩,
   ⟨(some 27), none, .ext (.t 24) 0, [], (.new [])⟩,
   ⟨(some 28), none, .ext (.t 24) 1, [], (.new [])⟩,
   ⟨(some 7), none, .mv (.t 27), [], (.new [])⟩,
   ⟨(some 8), none, .mv (.t 28), [], (.new [])⟩])
 (.seq (.sem (.reg [⟨(some 29), none, .mv (.t 8), [], (.new [])⟩,
   ⟨(some 30), none, .bin .neq (.t 29) (kI 0), [], (.new [])⟩,
   ⟨(some 31), none, .mv (.t 30), [], (.new [])⟩,
   ⟨(some 32), (some (31, false)), .mv (.t 7), [], (.new [])⟩,
   ⟨(some 33), (some (31, false)), .mv (.t 0), [], (.new [])⟩,
   ⟨(some 34), (some (31, false)), .call 26 [(.t 32), (.t 33)], [], (.new [])⟩,
   ⟨(some 35), (some (31, false)), .not (.t 34), [], (.new [])⟩,
   ⟨(some 36), none, .pick (.t 31) (kB true) (.t 35), [], (.new [])⟩]))
 (.cond (.t 36)
 (.seq (.reg [⟨(some 4), none, .mv (kB false), [], (.new [])⟩])
 .ret)
 .skip)))
 .skip)))
 (.seq (.seq (.reg [⟨(some 37), none, .mv (.t 0), [], (.new [])⟩,
   ⟨(some 38), none, .len (.t 37), [], (.new [])⟩,
   ⟨(some 39), none, .mv (kI 0), [], (.new [])⟩])
 (.sem (.block 0 (.loop (.seq (.reg [⟨(some 40), none, .bin .lss (.t 39) (.t 38), [], (.new [])⟩])
 (.seq (.cond (.t 40)
 .skip
 (.exit 0))
 (.seq (.sem (.block 1 (.seq (.reg [⟨(some 41), none, .indexA 3 (.t 37) (.t 39), [], (.new [])⟩,
   ⟨(some 42), none, .load (some 3) (.t 41), [], (.new [])⟩,
   ⟨(some 10), none, .zbox [.d (.v (.string ⟨#[]⟩)), .d (.v (.int .i64 0)), .d (.v (.slice none 0 0))], [], (.new [])⟩,
   ⟨none, none, .store 3 (.t 10) (.t 42), [], (.new [])⟩])
 (.seq (.reg [⟨(some 43), none, .load (some 3) (.t 10), [], (.new [])⟩,
   ⟨(some 11), none, .zbox [.d (.v (.string ⟨#[]⟩)), .d (.v (.int .i64 0)), .d (.v (.slice none 0 0))], [], (.new [])⟩,
   ⟨none, none, .store 3 (.t 11) (.t 43), [], (.new [])⟩])
 (.seq (.sem (.seq (.reg [⟨(some 44), none, .fieldA 1 (.t 10), [], (.new [])⟩,
   ⟨(some 45), none, .load none (.t 44), [], (.new [])⟩])
 (.block 2 (.seq (.reg [⟨(some 51), none, .bin .eql (.t 45) (kI 1), [], (.new [])⟩,
   ⟨(some 50), none, .mv (.t 51), [], (.new [])⟩])
 (.cond (.t 50)
 (.reg [⟨(some 52), none, .fieldA 1 (.t 11), [], (.new [])⟩,
   ⟨none, none, .store 1 (.t 52) (kI 2), [], (.lone [11])⟩])
 (.seq (.reg [⟨(some 54), none, .bin .eql (.t 45) (kI 2), [], (.new [])⟩,
   ⟨(some 53), none, .mv (.t 54), [], (.new [])⟩])
 (.cond (.t 53)
 (.reg [⟨(some 55), none, .fieldA 1 (.t 11), [], (.new [])⟩,
   ⟨none, none, .store 1 (.t 55) (kI 1), [], (.lone [11])⟩])
 (.seq (.reg [⟨(some 57), none, .bin .eql (.t 45) (kI 3), [], (.new [])⟩,
   ⟨(some 56), none, .mv (.t 57), [], (.new [])⟩])
 (.cond (.t 56)
 (.reg [⟨(some 58), none, .fieldA 1 (.t 11), [], (.new [])⟩,
   ⟨none, none, .store 1 (.t 58) (kI 4), [], (.lone [11])⟩])
 (.seq (.reg [⟨(some 60), none, .bin .eql (.t 45) (kI 4), [], (.new [])⟩,
   ⟨(some 59), none, .mv (.t 60), [], (.new [])⟩])
 (.cond (.t 59)
 (.reg [⟨(some 61), none, .fieldA 1 (.t 11), [], (.new [])⟩,
   ⟨none, none, .store 1 (.t 61) (kI 3), [], (.lone [11])⟩])
 (.seq (.seq (.reg [⟨(some 46), none, .load (some 3) (.t 10), [], (.new [])⟩,
   ⟨(some 47), none, .bslice 3 [(.t 46)], [], (.new [])⟩,
   ⟨(some 48), none, .mv (.t 1), [], (.new [])⟩,
   ⟨(some 49), none, .call 22 [(.t 47), (.t 48)], [], (.new [])⟩])
 (.cond (.t 49)
 (.seq (.reg [⟨(some 4), none, .mv (kB false), [], (.new [])⟩])
 .ret)
 .skip))
 (.exit 1)))))))))))))
 (.seq (.regd [⟨(some 62), none, .load (some 3) (.t 10), [], (.new [])⟩,
   ⟨(some 63), none, .bslice 3 [(.t 62)], [0], (.new [])⟩,
   ⟨(some 64), none, .mv (.t 1), [], (.new [])⟩,
   ⟨(some 65), none, .call 22 [(.t 63), (.t 64)], [0, 1, 2], (.new [0, 1, 2])⟩,
   ⟨(some 66), none, .load (some 3) (.t 11), [], (.new [])⟩,
   ⟨(some 67), none, .bslice 3 [(.t 66)], [4], (.new [])⟩,
   ⟨(some 68), none, .mv (.t 1), [], (.new [])⟩,
   ⟨(some 69), none, .call 22 [(.t 67), (.t 68)], [0, 1, 2, 3, 4, 5, 6], (.lone [])⟩,
   ⟨(some 70), none, .beq false (.t 65) (.t 69), [0, 1, 2, 3, 4, 5, 6, 7], (.new [])⟩])
 (.cond (.t 70)
 (.seq (.reg [⟨(some 4), none, .mv (kB false), [], (.new [])⟩])
 .ret)
 .skip)))))))
 (.reg [⟨(some 71), none, .bin .add (.t 39) (kI 1), [], (.new [])⟩,
   ⟨(some 39), none, .mv (.t 71), [], (.new [])⟩]))))))))
 (.seq (.reg [⟨(some 72), none, .call 12 [], [], (.new [])⟩,
   ⟨(some 4), none, .mv (.t 72), [], (.new [])⟩])
 .ret))))))⟩
theorem a8_ok : afn Try.prog 8 = some a8.er := by kernel_rfl
theorem F8_ok {x0 : (List Requirement)} {x1 : (List Label)} {r : Bool} (h : F8 x0 x1 = some r) : CallD Try.prog 8 [.c (.d (.sl (x0.map eRequirement))), .c (.d (.sl (x1.map eLabel)))] [] (tupV [.c (.d (.v (.bool r)))]) [] := by
  refine callS a8_ok (by simp [a8]) ?_
  rw [F8] at h
  simp only [a8, VW.down, Nat.reduceEqDiff, reduceCtorEq, Nat.reduceAdd, Nat.reduceLeDiff, Nat.reduceLT, Nat.reduceBEq, Nat.reduceSub, EE.down]
  obtain ⟨t1, ht1, h⟩ := Option.bind_eq_some_iff.1 h
  refine callX_n [] (F11_ok ht1) ?_ ?_ ?_ ?_ ?_ ?_
  · first | rfl | simp [nrmA, nrmC, nrm, A1.ren, C.ren, rn, List.length_set]
  · simp [liveAll, A1.live, C.live]
  · rfl
  · decide
  · exact trivial
  simp only [VW.down, Nat.reduceEqDiff, reduceCtorEq, Nat.reduceAdd, Nat.reduceLeDiff, Nat.reduceLT, Nat.reduceBEq, Nat.reduceSub, EE.down]
  refine condB (fun c2 => ?_) (fun c2 => ?_)
  · have h := (if_pos c2).symm.trans h
    simp only [VW.down, Nat.reduceEqDiff, reduceCtorEq, Nat.reduceAdd, Nat.reduceLeDiff, Nat.reduceLT, Nat.reduceBEq, Nat.reduceSub, EE.down]
    obtain ⟨t3, ht3, h⟩ := Option.bind_eq_some_iff.1 h
    refine callX_n [] (F12_ok ht3) ?_ ?_ ?_ ?_ ?_ ?_
    · first | rfl | simp [nrmA, nrmC, nrm, A1.ren, C.ren, rn, List.length_set]
    · simp [liveAll, A1.live, C.live]
    · rfl
    · decide
    · exact trivial
    simp only [VW.down, Nat.reduceEqDiff, reduceCtorEq, Nat.reduceAdd, Nat.reduceLeDiff, Nat.reduceLT, Nat.reduceBEq, Nat.reduceSub, EE.down]
    obtain rfl := Option.some.inj h
    exact eF []
  · have h := (if_neg c2).symm.trans h
    simp only [VW.down, Nat.reduceEqDiff, reduceCtorEq, Nat.reduceAdd, Nat.reduceLeDiff, Nat.reduceLT, Nat.reduceBEq, Nat.reduceSub, EE.down]
    obtain ⟨t4, ht4, h⟩ := Option.bind_eq_some_iff.1 h
    refine callX_n [] (F27_ok ht4) ?_ ?_ ?_ ?_ ?_ ?_
    · first | rfl | simp [nrmA, nrmC, nrm, A1.ren, C.ren, rn, List.length_set]
    · simp [liveAll, A1.live, C.live]
    · rfl
    · decide
    · exact trivial
    simp only [VW.down, Nat.reduceEqDiff, reduceCtorEq, Nat.reduceAdd, Nat.reduceLeDiff, Nat.reduceLT, Nat.reduceBEq, Nat.reduceSub, EE.down]
    obtain ⟨o5, ho, h⟩ := Option.bind_eq_some_iff.1 h
    refine cutS (fun s => ∃ po5, o5 = Sum.inr po5 ∧ s = ⟨[(0, .one (.c (.d (.sl (x0.map eRequirement))))), (1, .one (.c (.d (.sl (x1.map eLabel)))))], []⟩) ?_ ?_
    · have h0o5 := h
      have h := ho
      clear ho
      simp only [VW.down, Nat.reduceEqDiff, reduceCtorEq, Nat.reduceAdd, Nat.reduceLeDiff, Nat.reduceLT, Nat.reduceBEq, Nat.reduceSub, EE.down]
      refine condS (fun c6 => ?_) (fun c6 => ?_)
      · have h := (if_pos c6).symm.trans h
        simp only [VW.down, Nat.reduceEqDiff, reduceCtorEq, Nat.reduceAdd, Nat.reduceLeDiff, Nat.reduceLT, Nat.reduceBEq, Nat.reduceSub, EE.down]
        obtain ⟨t7, ht7, h⟩ := Option.bind_eq_some_iff.1 h
        refine callX_n [] (F24_ok ht7) ?_ ?_ ?_ ?_ ?_ ?_
        · first | rfl | simp [nrmA, nrmC, nrm, A1.ren, C.ren, rn, List.length_set]
        · simp [liveAll, A1.live, C.live]
        · rfl
        · decide
        · exact trivial
        simp only [VW.down, Nat.reduceEqDiff, reduceCtorEq, Nat.reduceAdd, Nat.reduceLeDiff, Nat.reduceLT, Nat.reduceBEq, Nat.reduceSub, EE.down]
        obtain ⟨o8, ho, h⟩ := Option.bind_eq_some_iff.1 h
        refine cutS (fun s => s = ⟨[(0, .one (.c (.d (.sl (x0.map eRequirement))))), (1, .one (.c (.d (.sl (x1.map eLabel))))), (36, .one (.c (.d (.v (.bool o8)))))], []⟩) ?_ ?_
        · have h := ho
          clear ho
          simp only [VW.down, Nat.reduceEqDiff, reduceCtorEq, Nat.reduceAdd, Nat.reduceLeDiff, Nat.reduceLT, Nat.reduceBEq, Nat.reduceSub, EE.down]
          refine guardS (fun g9 => ?_) (fun g9 => ?_)
          · have h := (if_pos g9).symm.trans h
            simp only [VW.down, Nat.reduceEqDiff, reduceCtorEq, Nat.reduceAdd, Nat.reduceLeDiff, Nat.reduceLT, Nat.reduceBEq, Nat.reduceSub, EE.down]
            obtain rfl := Option.some.inj h
            exact eM [] rfl
          · have h := (if_neg g9).symm.trans h
            simp only [VW.down, Nat.reduceEqDiff, reduceCtorEq, Nat.reduceAdd, Nat.reduceLeDiff, Nat.reduceLT, Nat.reduceBEq, Nat.reduceSub, EE.down]
            obtain ⟨t10, ht10, h⟩ := Option.bind_eq_some_iff.1 h
            refine callX_bor (F26_ok ht10) (by simp only [borAs, bors, hp, List.getElem?_cons_zero, List.getElem?_cons_succ, Option.join_some, List.drop_zero, bor_full', true_and, Nat.zero_add, List.length_map, Nat.le_refl, nrm, List.length_cons, List.length_nil, Nat.reduceAdd, Nat.reduceLeDiff, List.take_succ_cons, List.take_zero, List.take_nil, List.map_cons, List.map_nil, List.length_set, EE.down]) rfl ?_
            simp only [VW.down, Nat.reduceEqDiff, reduceCtorEq, Nat.reduceAdd, Nat.reduceLeDiff, Nat.reduceLT, Nat.reduceBEq, Nat.reduceSub, EE.down]
            obtain rfl := Option.some.inj h
            exact eM [] rfl
        · rintro _ rfl
          clear ho
          simp only [VW.down, Nat.reduceEqDiff, reduceCtorEq, Nat.reduceAdd, Nat.reduceLeDiff, Nat.reduceLT, Nat.reduceBEq, Nat.reduceSub, EE.down]
          refine condB (fun c11 => ?_) (fun c11 => ?_)
          · have h := (if_pos c11).symm.trans h
            simp only [VW.down, Nat.reduceEqDiff, reduceCtorEq, Nat.reduceAdd, Nat.reduceLeDiff, Nat.reduceLT, Nat.reduceBEq, Nat.reduceSub, EE.down]
            obtain ⟨fh0o5, hfh0o5, rfl⟩ := Option.map_eq_some_iff.1 h
            have h := hfh0o5.trans h0o5
            obtain rfl := Option.some.inj h
            exact eF []
          · have h := (if_neg c11).symm.trans h
            simp only [VW.down, Nat.reduceEqDiff, reduceCtorEq, Nat.reduceAdd, Nat.reduceLeDiff, Nat.reduceLT, Nat.reduceBEq, Nat.reduceSub, EE.down]
            obtain rfl := Option.some.inj h
            exact eM [] ⟨_, rfl, rfl⟩
      · have h := (if_neg c6).symm.trans h
        simp only [VW.down, Nat.reduceEqDiff, reduceCtorEq, Nat.reduceAdd, Nat.reduceLeDiff, Nat.reduceLT, Nat.reduceBEq, Nat.reduceSub, EE.down]
        obtain rfl := Option.some.inj h
        exact eM [] ⟨_, rfl, rfl⟩
    · rintro _ ⟨po5, rfl, rfl⟩
      clear ho
      dsimp only at h
      simp only [VW.down, Nat.reduceEqDiff, reduceCtorEq, Nat.reduceAdd, Nat.reduceLeDiff, Nat.reduceLT, Nat.reduceBEq, Nat.reduceSub, EE.down]
      obtain ⟨o12, ho, h⟩ := Option.bind_eq_some_iff.1 h
      refine cutS (fun s => ∃ po12, o12 = Sum.inr po12 ∧ s = ⟨[], []⟩) ?_ ?_
      · have h0o12 := h
        have h := ho
        clear ho
        obtain ⟨_, hk, h⟩ := Option.bind_eq_some_iff.1 h
        have hk := ck_some hk
        simp only [VW.down, Nat.reduceEqDiff, reduceCtorEq, Nat.reduceAdd, Nat.reduceLeDiff, Nat.reduceLT, Nat.reduceBEq, Nat.reduceSub, EE.down]
        refine bL (fun j s => ∃ (o12_0 : Nat), (o12_0 ≤ x0.length ∧ j = x0.length - o12_0) ∧ s = ⟨[(1, .one (.c (.d (.sl (x1.map eLabel))))), (37, .one (.c (.d (.sl (x0.map eRequirement))))), (38, .one (.c (.d (.v (.int .i64 ((x0.length : Int))))))), (39, .one (.c (.d (.v (.int .i64 ((o12_0 : Int)))))))], []⟩ ∧ F8_l12 x1 (x0.drop o12_0) o12_0 = some o12) (x0.length - 0) [] ⟨0, ⟨hk.1, rfl⟩, rfl, h⟩ ?_
        rintro _ _ ⟨o12_0, ⟨hi, rfl⟩, rfl, h⟩
        simp only [VW.down, Nat.reduceEqDiff, reduceCtorEq, Nat.reduceAdd, Nat.reduceLeDiff, Nat.reduceLT, Nat.reduceBEq, Nat.reduceSub, EE.down]
        refine condS (fun c13 => ?_) (fun c13 => ?_)
        · obtain ⟨xo12, hxo12, hd⟩ := countY (show (o12_0 : Int) < (x0.length : Int) from c13)
          rw [hd, F8_l12] at h
          simp only [VW.down, Nat.reduceEqDiff, reduceCtorEq, Nat.reduceAdd, Nat.reduceLeDiff, Nat.reduceLT, Nat.reduceBEq, Nat.reduceSub, EE.down]
          obtain ⟨o14, ho, h⟩ := Option.bind_eq_some_iff.1 h
          refine cutS (fun s => ∃ po14, o14 = Sum.inr po14 ∧ s = ⟨[(1, .one (.c (.d (.sl (x1.map eLabel))))), (37, .one (.c (.d (.sl (x0.map eRequirement))))), (38, .one (.c (.d (.v (.int .i64 ((x0.length : Int))))))), (39, .one (.c (.d (.v (.int .i64 ((o12_0 : Int)))))))], []⟩) ?_ ?_
          · have h0o14 := h
            have h := ho
            clear ho
            simp only [VW.down, Nat.reduceEqDiff, reduceCtorEq, Nat.reduceAdd, Nat.reduceLeDiff, Nat.reduceLT, Nat.reduceBEq, Nat.reduceSub, EE.down]
            refine t_idxF (enc := eRequirement) (xs := x0) rfl rfl hxo12 rfl ?_
            simp only [VW.down, Nat.reduceEqDiff, reduceCtorEq, Nat.reduceAdd, Nat.reduceLeDiff, Nat.reduceLT, Nat.reduceBEq, Nat.reduceSub, EE.down]
            obtain ⟨o15, ho, h⟩ := Option.bind_eq_some_iff.1 h
            refine cutS (fun s => ∃ po15, o15 = Sum.inr po15 ∧ s = ⟨[(1, .one (.c (.d (.sl (x1.map eLabel))))), (10, .one (.c (.pt 0 0))), (11, .one (.c (.pt 1 0))), (37, .one (.c (.d (.sl (x0.map eRequirement))))), (38, .one (.c (.d (.v (.int .i64 ((x0.length : Int))))))), (39, .one (.c (.d (.v (.int .i64 ((o12_0 : Int)))))))], [some (.box [.d (.v (.string xo12.Key)), .d (.v (.int .i64 xo12.Op)), .d (.sl (xo12.Values.map eS))]), some (.box [.d (.v (.string xo12.Key)), .d (.v (.int .i64 po15)), .d (.sl (xo12.Values.map eS))])]⟩) ?_ ?_
            · have h0o15 := h
              have h := ho
              clear ho
              simp only [VW.down, Nat.reduceEqDiff, reduceCtorEq, Nat.reduceAdd, Nat.reduceLeDiff, Nat.reduceLT, Nat.reduceBEq, Nat.reduceSub, EE.down]
              refine condS (fun c16 => ?_) (fun c16 => ?_)
              · have h := (if_pos c16).symm.trans h
                simp only [VW.down, Nat.reduceEqDiff, reduceCtorEq, Nat.reduceAdd, Nat.reduceLeDiff, Nat.reduceLT, Nat.reduceBEq, Nat.reduceSub, EE.down]
                obtain rfl := Option.some.inj h
                exact eM [some 0, some 1] ⟨_, rfl, rfl⟩
              · have h := (if_neg c16).symm.trans h
                simp only [VW.down, Nat.reduceEqDiff, reduceCtorEq, Nat.reduceAdd, Nat.reduceLeDiff, Nat.reduceLT, Nat.reduceBEq, Nat.reduceSub, EE.down]
                refine condS (fun c17 => ?_) (fun c17 => ?_)
                · have h := (if_pos c17).symm.trans h
                  simp only [VW.down, Nat.reduceEqDiff, reduceCtorEq, Nat.reduceAdd, Nat.reduceLeDiff, Nat.reduceLT, Nat.reduceBEq, Nat.reduceSub, EE.down]
                  obtain rfl := Option.some.inj h
                  exact eM [some 0, some 1] ⟨_, rfl, rfl⟩
                · have h := (if_neg c17).symm.trans h
                  simp only [VW.down, Nat.reduceEqDiff, reduceCtorEq, Nat.reduceAdd, Nat.reduceLeDiff, Nat.reduceLT, Nat.reduceBEq, Nat.reduceSub, EE.down]
                  refine condS (fun c18 => ?_) (fun c18 => ?_)
                  · have h := (if_pos c18).symm.trans h
                    simp only [VW.down, Nat.reduceEqDiff, reduceCtorEq, Nat.reduceAdd, Nat.reduceLeDiff, Nat.reduceLT, Nat.reduceBEq, Nat.reduceSub, EE.down]
                    obtain rfl := Option.some.inj h
                    exact eM [some 0, some 1] ⟨_, rfl, rfl⟩
                  · have h := (if_neg c18).symm.trans h
                    simp only [VW.down, Nat.reduceEqDiff, reduceCtorEq, Nat.reduceAdd, Nat.reduceLeDiff, Nat.reduceLT, Nat.reduceBEq, Nat.reduceSub, EE.down]
                    refine condS (fun c19 => ?_) (fun c19 => ?_)
                    · have h := (if_pos c19).symm.trans h
                      simp only [VW.down, Nat.reduceEqDiff, reduceCtorEq, Nat.reduceAdd, Nat.reduceLeDiff, Nat.reduceLT, Nat.reduceBEq, Nat.reduceSub, EE.down]
                      obtain rfl := Option.some.inj h
                      exact eM [some 0, some 1] ⟨_, rfl, rfl⟩
                    · have h := (if_neg c19).symm.trans h
                      simp only [VW.down, Nat.reduceEqDiff, reduceCtorEq, Nat.reduceAdd, Nat.reduceLeDiff, Nat.reduceLT, Nat.reduceBEq, Nat.reduceSub, EE.down]
                      refine t_bslice (enc := eRequirement) (ys := [xo12]) rfl rfl (by simp [A1.cells]) (by first | rfl | (simp only [List.drop_zero, take_mapL]; rfl)) ?_
                      simp only [VW.down, Nat.reduceEqDiff, reduceCtorEq, Nat.reduceAdd, Nat.reduceLeDiff, Nat.reduceLT, Nat.reduceBEq, Nat.reduceSub, EE.down]
                      obtain ⟨t20, ht20, h⟩ := Option.bind_eq_some_iff.1 h
                      refine callX_bor (F22_ok ht20) (by simp only [borAs, bors, hp, List.getElem?_cons_zero, List.getElem?_cons_succ, Option.join_some, List.drop_zero, bor_full', true_and, Nat.zero_add, List.length_map, Nat.le_refl, nrm, List.length_cons, List.length_nil, Nat.reduceAdd, Nat.reduceLeDiff, List.take_succ_cons, List.take_zero, List.take_nil, List.map_cons, List.map_nil, List.length_set, EE.down]) rfl ?_
                      simp only [VW.down, Nat.reduceEqDiff, reduceCtorEq, Nat.reduceAdd, Nat.reduceLeDiff, Nat.reduceLT, Nat.reduceBEq, Nat.reduceSub, EE.down]
                      refine condB (fun c21 => ?_) (fun c21 => ?_)
                      · have h := (if_pos c21).symm.trans h
                        simp only [VW.down, Nat.reduceEqDiff, reduceCtorEq, Nat.reduceAdd, Nat.reduceLeDiff, Nat.reduceLT, Nat.reduceBEq, Nat.reduceSub, EE.down]
                        obtain ⟨fh0o15, hfh0o15, rfl⟩ := Option.map_eq_some_iff.1 h
                        have h := hfh0o15.trans h0o15
                        obtain ⟨fh0o14, hfh0o14, rfl⟩ := Option.map_eq_some_iff.1 h
                        have h := hfh0o14.trans h0o14
                        obtain ⟨fh0o12, hfh0o12, rfl⟩ := Option.map_eq_some_iff.1 h
                        have h := hfh0o12.trans h0o12
                        obtain rfl := Option.some.inj h
                        exact eF []
                      · have h := (if_neg c21).symm.trans h
                        simp only [VW.down, Nat.reduceEqDiff, reduceCtorEq, Nat.reduceAdd, Nat.reduceLeDiff, Nat.reduceLT, Nat.reduceBEq, Nat.reduceSub, EE.down]
                        obtain ⟨fh0o15, hfh0o15, rfl⟩ := Option.map_eq_some_iff.1 h
                        have h := hfh0o15.trans h0o15
                        obtain rfl := Option.some.inj h
                        exact eM [] ⟨_, rfl, rfl⟩
            · rintro _ ⟨po15, rfl, rfl⟩
              clear ho
              dsimp only at h
              simp only [VW.down, Nat.reduceEqDiff, reduceCtorEq, Nat.reduceAdd, Nat.reduceLeDiff, Nat.reduceLT, Nat.reduceBEq, Nat.reduceSub, EE.down]
              refine t_bslice (enc := eRequirement) (ys := [xo12]) rfl rfl (by simp [A1.cells]) (by first | rfl | (simp only [List.drop_zero, take_mapL]; rfl)) ?_
              simp only [VW.down, Nat.reduceEqDiff, reduceCtorEq, Nat.reduceAdd, Nat.reduceLeDiff, Nat.reduceLT, Nat.reduceBEq, Nat.reduceSub, EE.down]
              refine kD_new (by simp [wrs, allW, hset]) ?_
              simp only [VW.down, Nat.reduceEqDiff, reduceCtorEq, Nat.reduceAdd, Nat.reduceLeDiff, Nat.reduceLT, Nat.reduceBEq, Nat.reduceSub, EE.down]
              obtain ⟨t22, ht22, h⟩ := Option.bind_eq_some_iff.1 h
              refine callX_bor (F22_ok ht22) (by simp only [borAs, bors, hp, List.getElem?_cons_zero, List.getElem?_cons_succ, Option.join_some, List.drop_zero, bor_full', true_and, Nat.zero_add, List.length_map, Nat.le_refl, nrm, List.length_cons, List.length_nil, Nat.reduceAdd, Nat.reduceLeDiff, List.take_succ_cons, List.take_zero, List.take_nil, List.map_cons, List.map_nil, List.length_set, EE.down]) rfl ?_
              simp only [VW.down, Nat.reduceEqDiff, reduceCtorEq, Nat.reduceAdd, Nat.reduceLeDiff, Nat.reduceLT, Nat.reduceBEq, Nat.reduceSub, EE.down]
              refine t_bslice (enc := eRequirement) (ys := [(⟨xo12.Key, po15, xo12.Values⟩ : Requirement)]) rfl rfl (by simp [A1.cells]) (by first | rfl | (simp only [List.drop_zero, take_mapL]; rfl)) ?_
              simp only [VW.down, Nat.reduceEqDiff, reduceCtorEq, Nat.reduceAdd, Nat.reduceLeDiff, Nat.reduceLT, Nat.reduceBEq, Nat.reduceSub, EE.down]
              refine kD_new (by simp [wrs, allW, hset]) ?_
              simp only [VW.down, Nat.reduceEqDiff, reduceCtorEq, Nat.reduceAdd, Nat.reduceLeDiff, Nat.reduceLT, Nat.reduceBEq, Nat.reduceSub, EE.down]
              obtain ⟨t23, ht23, h⟩ := Option.bind_eq_some_iff.1 h
              refine callX_bor (F22_ok ht23) (by simp only [borAs, bors, hp, List.getElem?_cons_zero, List.getElem?_cons_succ, Option.join_some, List.drop_zero, bor_full', true_and, Nat.zero_add, List.length_map, Nat.le_refl, nrm, List.length_cons, List.length_nil, Nat.reduceAdd, Nat.reduceLeDiff, List.take_succ_cons, List.take_zero, List.take_nil, List.map_cons, List.map_nil, List.length_set, EE.down]) rfl ?_
              simp only [VW.down, Nat.reduceEqDiff, reduceCtorEq, Nat.reduceAdd, Nat.reduceLeDiff, Nat.reduceLT, Nat.reduceBEq, Nat.reduceSub, EE.down]
              refine condB (fun c24 => ?_) (fun c24 => ?_)
              · have h := (if_pos c24).symm.trans h
                simp only [VW.down, Nat.reduceEqDiff, reduceCtorEq, Nat.reduceAdd, Nat.reduceLeDiff, Nat.reduceLT, Nat.reduceBEq, Nat.reduceSub, EE.down]
                obtain ⟨fh0o14, hfh0o14, rfl⟩ := Option.map_eq_some_iff.1 h
                have h := hfh0o14.trans h0o14
                obtain ⟨fh0o12, hfh0o12, rfl⟩ := Option.map_eq_some_iff.1 h
                have h := hfh0o12.trans h0o12
                obtain rfl := Option.some.inj h
                exact eF []
              · have h := (if_neg c24).symm.trans h
                simp only [VW.down, Nat.reduceEqDiff, reduceCtorEq, Nat.reduceAdd, Nat.reduceLeDiff, Nat.reduceLT, Nat.reduceBEq, Nat.reduceSub, EE.down]
                obtain rfl := Option.some.inj h
                exact eM [] ⟨_, rfl, rfl⟩
          · rintro _ ⟨po14, rfl, rfl⟩
            clear ho
            dsimp only at h
            simp only [VW.down, Nat.reduceEqDiff, reduceCtorEq, Nat.reduceAdd, Nat.reduceLeDiff, Nat.reduceLT, Nat.reduceBEq, Nat.reduceSub, EE.down]
            rw [wrapN (by omega)]
            exact eL' (x0.length - (o12_0 + 1)) [] ⟨o12_0 + 1, ⟨by omega, rfl⟩, rfl, h⟩ (by omega)
        · rw [countN (show ¬ ((o12_0 : Int) < (x0.length : Int)) from c13), F8_l12] at h
          simp only [VW.down, Nat.reduceEqDiff, reduceCtorEq, Nat.reduceAdd, Nat.reduceLeDiff, Nat.reduceLT, Nat.reduceBEq, Nat.reduceSub, EE.down]
          obtain rfl := Option.some.inj h
          exact eM [] ⟨_, rfl, rfl⟩
      · rintro _ ⟨po12, rfl, rfl⟩
        clear ho
        dsimp only at h
        simp only [VW.down, Nat.reduceEqDiff, reduceCtorEq, Nat.reduceAdd, Nat.reduceLeDiff, Nat.reduceLT, Nat.reduceBEq, Nat.reduceSub, EE.down]
        obtain ⟨t26, ht26, h⟩ := Option.bind_eq_some_iff.1 h
        refine callX_n [] (F12_ok ht26) ?_ ?_ ?_ ?_ ?_ ?_
        · first | rfl | simp [nrmA, nrmC, nrm, A1.ren, C.ren, rn, List.length_set]
        · simp [liveAll, A1.live, C.live]
        · rfl
        · decide
        · exact trivial
        simp only [VW.down, Nat.reduceEqDiff, reduceCtorEq, Nat.reduceAdd, Nat.reduceLeDiff, Nat.reduceLT, Nat.reduceBEq, Nat.reduceSub, EE.down]
        obtain rfl := Option.some.inj h
        exact eF []

end Go.Proofs.Ytadhmlfnfgpjjaa
