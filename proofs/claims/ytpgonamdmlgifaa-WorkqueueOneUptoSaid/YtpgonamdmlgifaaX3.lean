/- Each Go function as a function over typed data, and its walk. -/
import Derived.Test.YtpgonamdmlgifaaX2
namespace Go.Proofs.Ytpgonamdmlgifaa
open Go Go.Fw
set_option maxRecDepth 100000
set_option maxHeartbeats 4000000
set_option linter.unusedSimpArgs false
set_option linter.unusedVariables false
/- orchestrator/orchestratorref31.words -/
def F30_l2 (x1 : (List ByteArray)) : List ByteArray → Nat → Option ((Bool) ⊕ (Unit))
  | [], o2_0 => some (Sum.inr (()))
  | xo2 :: xs, o2_0 => (rdI x1 ((o2_0 : Int))).bind fun y4 => (if ¬ (xo2 = y4) then (some false).map Sum.inl else F30_l2 x1 xs (o2_0 + 1))
def F30 (x0 : (List ByteArray)) (x1 : (List ByteArray)) : Option (Bool) := (if ¬ ((x0.length : Int) = (x1.length : Int)) then some false else (((ck (0 ≤ x0.length ∧ x0.length ≤ 4294967290)).bind fun u6 => F30_l2 x1 x0 0).bind fun o2 => match o2 with | Sum.inl f => some f | Sum.inr po2 => some true))
def a30 : AFn := ⟨26, [(.tmp 4)],
 (.seq (.reg [⟨(some 4), none, .mv (kB false), [], (.new [])⟩])
 (.seq (.seq (.reg [⟨(some 6), none, .mv (.t 0), [], (.new [])⟩,
   ⟨(some 7), none, .len (.t 6), [], (.new [])⟩,
   ⟨(some 8), none, .mv (.t 1), [], (.new [])⟩,
   ⟨(some 9), none, .len (.t 8), [], (.new [])⟩,
   ⟨(some 10), none, .bin .neq (.t 7) (.t 9), [], (.new [])⟩])
 (.cond (.t 10)
 (.seq (.reg [⟨(some 4), none, .mv (kB false), [], (.new [])⟩])
 .ret)
 .skip))
 (.seq (.seq (.reg [⟨(some 5), none, .mv (kI 0), [], (.new [])⟩])
 (.sem (.block 0 (.loop (.seq (.seq (.reg [⟨(some 11), none, .mv (.t 5), [], (.new [])⟩,
   ⟨(some 12), none, .mv (.t 0), [], (.new [])⟩,
   ⟨(some 13), none, .len (.t 12), [], (.new [])⟩,
   ⟨(some 14), none, .bin .lss (.t 11) (.t 13), [], (.new [])⟩])
 (.cond (.t 14)
 .skip
 (.exit 0)))
 (.seq (.block 1 (.seq (.regd [⟨(some 17), none, .mv (.t 0), [], (.new [])⟩,
   ⟨(some 18), none, .mv (.t 5), [], (.new [])⟩,
   ⟨(some 19), none, .indexA 1 (.t 17) (.t 18), [0, 1], (.new [])⟩,
   ⟨(some 20), none, .load none (.t 19), [0, 1, 2], (.new [])⟩,
   ⟨(some 21), none, .mv (.t 1), [], (.new [])⟩,
   ⟨(some 22), none, .mv (.t 5), [], (.new [])⟩,
   ⟨(some 23), none, .indexA 1 (.t 21) (.t 22), [4, 5], (.new [])⟩,
   ⟨(some 24), none, .load none (.t 23), [4, 5, 6], (.new [])⟩,
   ⟨(some 25), none, .bin .neq (.t 20) (.t 24), [0, 1, 2, 3, 4, 5, 6, 7], (.new [])⟩])
 (.cond (.t 25)
 (.seq (.reg [⟨(some 4), none, .mv (kB false), [], (.new [])⟩])
 .ret)
 .skip)))
 (.reg [⟨(some 15), none, .mv (.t 5), [], (.new [])⟩,
   ⟨(some 16), none, .bin .add (.t 15) (kI 1), [], (.new [])⟩,
   ⟨(some 5), none, .mv (.t 16), [], (.new [])⟩])))))))
 (.seq (.reg [⟨(some 4), none, .mv (kB true), [], (.new [])⟩])
 .ret))))⟩
theorem a30_ok : afn Try.prog 30 = some a30.er := by kernel_rfl
theorem F30_ok {x0 : (List ByteArray)} {x1 : (List ByteArray)} {r : Bool} (h : F30 x0 x1 = some r) : CallD Try.prog 30 [.c (.d (.sl (x0.map eS))), .c (.d (.sl (x1.map eS)))] [] (tupV [.c (.d (.v (.bool r)))]) [] := by
  refine callS a30_ok (by simp [a30]) ?_
  rw [F30] at h
  simp only [a30, VW.down, Nat.reduceEqDiff, reduceCtorEq, Nat.reduceAdd, Nat.reduceLeDiff, Nat.reduceLT, Nat.reduceBEq, Nat.reduceSub, EE.down]
  refine condS (fun c1 => ?_) (fun c1 => ?_)
  · have h := (if_pos c1).symm.trans h
    simp only [VW.down, Nat.reduceEqDiff, reduceCtorEq, Nat.reduceAdd, Nat.reduceLeDiff, Nat.reduceLT, Nat.reduceBEq, Nat.reduceSub, EE.down]
    obtain rfl := Option.some.inj h
    exact eF []
  · have h := (if_neg c1).symm.trans h
    simp only [VW.down, Nat.reduceEqDiff, reduceCtorEq, Nat.reduceAdd, Nat.reduceLeDiff, Nat.reduceLT, Nat.reduceBEq, Nat.reduceSub, EE.down]
    obtain ⟨o2, ho, h⟩ := Option.bind_eq_some_iff.1 h
    refine cutS (fun s => ∃ po2, o2 = Sum.inr po2 ∧ s = ⟨[], []⟩) ?_ ?_
    · have h0o2 := h
      have h := ho
      clear ho
      obtain ⟨_, hk, h⟩ := Option.bind_eq_some_iff.1 h
      have hk := ck_some hk
      simp only [VW.down, Nat.reduceEqDiff, reduceCtorEq, Nat.reduceAdd, Nat.reduceLeDiff, Nat.reduceLT, Nat.reduceBEq, Nat.reduceSub, EE.down]
      refine bL (fun j s => ∃ (o2_0 : Nat), (o2_0 ≤ x0.length ∧ j = x0.length - o2_0) ∧ s = ⟨[(0, .one (.c (.d (.sl (x0.map eS))))), (1, .one (.c (.d (.sl (x1.map eS))))), (5, .one (.c (.d (.v (.int .i64 ((o2_0 : Int)))))))], []⟩ ∧ F30_l2 x1 (x0.drop o2_0) o2_0 = some o2) (x0.length - 0) [] ⟨0, ⟨hk.1, rfl⟩, rfl, h⟩ ?_
      rintro _ _ ⟨o2_0, ⟨hi, rfl⟩, rfl, h⟩
      simp only [VW.down, Nat.reduceEqDiff, reduceCtorEq, Nat.reduceAdd, Nat.reduceLeDiff, Nat.reduceLT, Nat.reduceBEq, Nat.reduceSub, EE.down]
      refine condS (fun c3 => ?_) (fun c3 => ?_)
      · obtain ⟨xo2, hxo2, hd⟩ := countY c3
        rw [hd, F30_l2] at h
        simp only [VW.down, Nat.reduceEqDiff, reduceCtorEq, Nat.reduceAdd, Nat.reduceLeDiff, Nat.reduceLT, Nat.reduceBEq, Nat.reduceSub, EE.down]
        refine t_idxF (enc := eS) (xs := x0) rfl rfl hxo2 rfl ?_
        simp only [VW.down, Nat.reduceEqDiff, reduceCtorEq, Nat.reduceAdd, Nat.reduceLeDiff, Nat.reduceLT, Nat.reduceBEq, Nat.reduceSub, EE.down]
        obtain ⟨y4, hy4, h⟩ := Option.bind_eq_some_iff.1 h
        refine t_idxF (enc := eS) (xs := x1) rfl rfl hy4 rfl ?_
        simp only [VW.down, Nat.reduceEqDiff, reduceCtorEq, Nat.reduceAdd, Nat.reduceLeDiff, Nat.reduceLT, Nat.reduceBEq, Nat.reduceSub, EE.down]
        refine condS (fun c5 => ?_) (fun c5 => ?_)
        · have h := (if_pos c5).symm.trans h
          simp only [VW.down, Nat.reduceEqDiff, reduceCtorEq, Nat.reduceAdd, Nat.reduceLeDiff, Nat.reduceLT, Nat.reduceBEq, Nat.reduceSub, EE.down]
          obtain ⟨fh0o2, hfh0o2, rfl⟩ := Option.map_eq_some_iff.1 h
          have h := hfh0o2.trans h0o2
          obtain rfl := Option.some.inj h
          exact eF []
        · have h := (if_neg c5).symm.trans h
          simp only [VW.down, Nat.reduceEqDiff, reduceCtorEq, Nat.reduceAdd, Nat.reduceLeDiff, Nat.reduceLT, Nat.reduceBEq, Nat.reduceSub, EE.down]
          rw [wrapN (by omega)]
          exact eL' (x0.length - (o2_0 + 1)) [] ⟨o2_0 + 1, ⟨by omega, rfl⟩, rfl, h⟩ (by omega)
      · rw [countN c3, F30_l2] at h
        simp only [VW.down, Nat.reduceEqDiff, reduceCtorEq, Nat.reduceAdd, Nat.reduceLeDiff, Nat.reduceLT, Nat.reduceBEq, Nat.reduceSub, EE.down]
        obtain rfl := Option.some.inj h
        exact eM [] ⟨_, rfl, rfl⟩
    · rintro _ ⟨po2, rfl, rfl⟩
      clear ho
      dsimp only at h
      simp only [VW.down, Nat.reduceEqDiff, reduceCtorEq, Nat.reduceAdd, Nat.reduceLeDiff, Nat.reduceLT, Nat.reduceBEq, Nat.reduceSub, EE.down]
      obtain rfl := Option.some.inj h
      exact eF []

/- orchestrator/orchestratorref31.items -/
def F31_l2 (x1 : (List WorkItem)) : List WorkItem → Nat → Option ((Bool) ⊕ (Unit))
  | [], o2_0 => some (Sum.inr (()))
  | xo2 :: xs, o2_0 => (rdI x1 ((o2_0 : Int))).bind fun y4 => (if ¬ (xo2.Key = y4.Key ∧ xo2.At = y4.At) then (some false).map Sum.inl else F31_l2 x1 xs (o2_0 + 1))
def F31 (x0 : (List WorkItem)) (x1 : (List WorkItem)) : Option (Bool) := (if ¬ ((x0.length : Int) = (x1.length : Int)) then some false else (((ck (0 ≤ x0.length ∧ x0.length ≤ 4294967290)).bind fun u6 => F31_l2 x1 x0 0).bind fun o2 => match o2 with | Sum.inl f => some f | Sum.inr po2 => some true))
def a31 : AFn := ⟨26, [(.tmp 4)],
 (.seq (.reg [⟨(some 4), none, .mv (kB false), [], (.new [])⟩])
 (.seq (.seq (.reg [⟨(some 6), none, .mv (.t 0), [], (.new [])⟩,
   ⟨(some 7), none, .len (.t 6), [], (.new [])⟩,
   ⟨(some 8), none, .mv (.t 1), [], (.new [])⟩,
   ⟨(some 9), none, .len (.t 8), [], (.new [])⟩,
   ⟨(some 10), none, .bin .neq (.t 7) (.t 9), [], (.new [])⟩])
 (.cond (.t 10)
 (.seq (.reg [⟨(some 4), none, .mv (kB false), [], (.new [])⟩])
 .ret)
 .skip))
 (.seq (.seq (.reg [⟨(some 5), none, .mv (kI 0), [], (.new [])⟩])
 (.sem (.block 0 (.loop (.seq (.seq (.reg [⟨(some 11), none, .mv (.t 5), [], (.new [])⟩,
   ⟨(some 12), none, .mv (.t 0), [], (.new [])⟩,
   ⟨(some 13), none, .len (.t 12), [], (.new [])⟩,
   ⟨(some 14), none, .bin .lss (.t 11) (.t 13), [], (.new [])⟩])
 (.cond (.t 14)
 .skip
 (.exit 0)))
 (.seq (.block 1 (.seq (.regd [⟨(some 17), none, .mv (.t 0), [], (.new [])⟩,
   ⟨(some 18), none, .mv (.t 5), [], (.new [])⟩,
   ⟨(some 19), none, .indexA 2 (.t 17) (.t 18), [0, 1], (.new [])⟩,
   ⟨(some 20), none, .load (some 2) (.t 19), [0, 1, 2], (.new [])⟩,
   ⟨(some 21), none, .mv (.t 1), [], (.new [])⟩,
   ⟨(some 22), none, .mv (.t 5), [], (.new [])⟩,
   ⟨(some 23), none, .indexA 2 (.t 21) (.t 22), [4, 5], (.new [])⟩,
   ⟨(some 24), none, .load (some 2) (.t 23), [4, 5, 6], (.new [])⟩,
   ⟨(some 25), none, .eqs true [(0, 2), (1, 0)] (.t 20) (.t 24), [0, 1, 2, 3, 4, 5, 6, 7], (.lone [])⟩])
 (.cond (.t 25)
 (.seq (.reg [⟨(some 4), none, .mv (kB false), [], (.new [])⟩])
 .ret)
 .skip)))
 (.reg [⟨(some 15), none, .mv (.t 5), [], (.new [])⟩,
   ⟨(some 16), none, .bin .add (.t 15) (kI 1), [], (.new [])⟩,
   ⟨(some 5), none, .mv (.t 16), [], (.new [])⟩])))))))
 (.seq (.reg [⟨(some 4), none, .mv (kB true), [], (.new [])⟩])
 .ret))))⟩
theorem a31_ok : afn Try.prog 31 = some a31.er := by kernel_rfl
theorem F31_ok {x0 : (List WorkItem)} {x1 : (List WorkItem)} {r : Bool} (h : F31 x0 x1 = some r) : CallD Try.prog 31 [.c (.d (.sl (x0.map eWorkItem))), .c (.d (.sl (x1.map eWorkItem)))] [] (tupV [.c (.d (.v (.bool r)))]) [] := by
  refine callS a31_ok (by simp [a31]) ?_
  rw [F31] at h
  simp only [a31, VW.down, Nat.reduceEqDiff, reduceCtorEq, Nat.reduceAdd, Nat.reduceLeDiff, Nat.reduceLT, Nat.reduceBEq, Nat.reduceSub, EE.down]
  refine condS (fun c1 => ?_) (fun c1 => ?_)
  · have h := (if_pos c1).symm.trans h
    simp only [VW.down, Nat.reduceEqDiff, reduceCtorEq, Nat.reduceAdd, Nat.reduceLeDiff, Nat.reduceLT, Nat.reduceBEq, Nat.reduceSub, EE.down]
    obtain rfl := Option.some.inj h
    exact eF []
  · have h := (if_neg c1).symm.trans h
    simp only [VW.down, Nat.reduceEqDiff, reduceCtorEq, Nat.reduceAdd, Nat.reduceLeDiff, Nat.reduceLT, Nat.reduceBEq, Nat.reduceSub, EE.down]
    obtain ⟨o2, ho, h⟩ := Option.bind_eq_some_iff.1 h
    refine cutS (fun s => ∃ po2, o2 = Sum.inr po2 ∧ s = ⟨[], []⟩) ?_ ?_
    · have h0o2 := h
      have h := ho
      clear ho
      obtain ⟨_, hk, h⟩ := Option.bind_eq_some_iff.1 h
      have hk := ck_some hk
      simp only [VW.down, Nat.reduceEqDiff, reduceCtorEq, Nat.reduceAdd, Nat.reduceLeDiff, Nat.reduceLT, Nat.reduceBEq, Nat.reduceSub, EE.down]
      refine bL (fun j s => ∃ (o2_0 : Nat), (o2_0 ≤ x0.length ∧ j = x0.length - o2_0) ∧ s = ⟨[(0, .one (.c (.d (.sl (x0.map eWorkItem))))), (1, .one (.c (.d (.sl (x1.map eWorkItem))))), (5, .one (.c (.d (.v (.int .i64 ((o2_0 : Int)))))))], []⟩ ∧ F31_l2 x1 (x0.drop o2_0) o2_0 = some o2) (x0.length - 0) [] ⟨0, ⟨hk.1, rfl⟩, rfl, h⟩ ?_
      rintro _ _ ⟨o2_0, ⟨hi, rfl⟩, rfl, h⟩
      simp only [VW.down, Nat.reduceEqDiff, reduceCtorEq, Nat.reduceAdd, Nat.reduceLeDiff, Nat.reduceLT, Nat.reduceBEq, Nat.reduceSub, EE.down]
      refine condS (fun c3 => ?_) (fun c3 => ?_)
      · obtain ⟨xo2, hxo2, hd⟩ := countY c3
        rw [hd, F31_l2] at h
        simp only [VW.down, Nat.reduceEqDiff, reduceCtorEq, Nat.reduceAdd, Nat.reduceLeDiff, Nat.reduceLT, Nat.reduceBEq, Nat.reduceSub, EE.down]
        refine t_idxF (enc := eWorkItem) (xs := x0) rfl rfl hxo2 rfl ?_
        simp only [VW.down, Nat.reduceEqDiff, reduceCtorEq, Nat.reduceAdd, Nat.reduceLeDiff, Nat.reduceLT, Nat.reduceBEq, Nat.reduceSub, EE.down]
        obtain ⟨y4, hy4, h⟩ := Option.bind_eq_some_iff.1 h
        refine t_idxF (enc := eWorkItem) (xs := x1) rfl rfl hy4 rfl ?_
        simp only [VW.down, Nat.reduceEqDiff, reduceCtorEq, Nat.reduceAdd, Nat.reduceLeDiff, Nat.reduceLT, Nat.reduceBEq, Nat.reduceSub, EE.down]
        refine condS (fun c5 => ?_) (fun c5 => ?_)
        · have h := (if_pos c5).symm.trans h
          simp only [VW.down, Nat.reduceEqDiff, reduceCtorEq, Nat.reduceAdd, Nat.reduceLeDiff, Nat.reduceLT, Nat.reduceBEq, Nat.reduceSub, EE.down]
          obtain ⟨fh0o2, hfh0o2, rfl⟩ := Option.map_eq_some_iff.1 h
          have h := hfh0o2.trans h0o2
          obtain rfl := Option.some.inj h
          exact eF []
        · have h := (if_neg c5).symm.trans h
          simp only [VW.down, Nat.reduceEqDiff, reduceCtorEq, Nat.reduceAdd, Nat.reduceLeDiff, Nat.reduceLT, Nat.reduceBEq, Nat.reduceSub, EE.down]
          rw [wrapN (by omega)]
          exact eL' (x0.length - (o2_0 + 1)) [] ⟨o2_0 + 1, ⟨by omega, rfl⟩, rfl, h⟩ (by omega)
      · rw [countN c3, F31_l2] at h
        simp only [VW.down, Nat.reduceEqDiff, reduceCtorEq, Nat.reduceAdd, Nat.reduceLeDiff, Nat.reduceLT, Nat.reduceBEq, Nat.reduceSub, EE.down]
        obtain rfl := Option.some.inj h
        exact eM [] ⟨_, rfl, rfl⟩
    · rintro _ ⟨po2, rfl, rfl⟩
      clear ho
      dsimp only at h
      simp only [VW.down, Nat.reduceEqDiff, reduceCtorEq, Nat.reduceAdd, Nat.reduceLeDiff, Nat.reduceLT, Nat.reduceBEq, Nat.reduceSub, EE.down]
      obtain rfl := Option.some.inj h
      exact eF []

/- orchestrator/orchestratorref31.Same -/
def F13 (x0 : WorkQueue) (x1 : WorkQueue) : Option (Bool) := (((F30 x0.Ready x1.Ready).bind fun t2 => (if t2 = true then (F30 x0.Working x1.Working).bind fun t4 => (if t4 = true then (F30 x0.Dirty x1.Dirty).bind fun t6 => (if t6 = true then (F31 x0.Later x1.Later).bind fun t8 => (if t8 = true then (F31 x0.Retries x1.Retries).bind fun t10 => some t10 else some false) else some false) else some false) else some false)).bind fun o1 => some o1)
def a13 : AFn := ⟨38, [(.tmp 4)],
 (.seq (.reg [⟨(some 2), none, .box (.t 0), [], (.new [])⟩,
   ⟨(some 3), none, .box (.t 1), [], (.new [])⟩,
   ⟨(some 4), none, .mv (kB false), [], (.new [])⟩])
 (.seq (.sem (.reg [⟨(some 5), none, .fieldA 0 (.t 2), [], (.new [])⟩,
   ⟨(some 6), none, .load none (.t 5), [], (.new [])⟩,
   ⟨(some 7), none, .fieldA 0 (.t 3), [], (.new [])⟩,
   ⟨(some 8), none, .load none (.t 7), [], (.new [])⟩,
   ⟨(some 9), none, .call 30 [(.t 6), (.t 8)], [], (.new [])⟩,
   ⟨(some 10), none, .mv (.t 9), [], (.new [])⟩,
   ⟨(some 11), (some (10, true)), .fieldA 1 (.t 2), [], (.new [])⟩,
   ⟨(some 12), (some (10, true)), .load none (.t 11), [], (.new [])⟩,
   ⟨(some 13), (some (10, true)), .fieldA 1 (.t 3), [], (.new [])⟩,
   ⟨(some 14), (some (10, true)), .load none (.t 13), [], (.new [])⟩,
   ⟨(some 15), (some (10, true)), .call 30 [(.t 12), (.t 14)], [], (.new [])⟩,
   ⟨(some 16), none, .pick (.t 10) (.t 15) (kB false), [], (.new [])⟩,
   ⟨(some 17), none, .mv (.t 16), [], (.new [])⟩,
   ⟨(some 18), (some (17, true)), .fieldA 2 (.t 2), [], (.new [])⟩,
   ⟨(some 19), (some (17, true)), .load none (.t 18), [], (.new [])⟩,
   ⟨(some 20), (some (17, true)), .fieldA 2 (.t 3), [], (.new [])⟩,
   ⟨(some 21), (some (17, true)), .load none (.t 20), [], (.new [])⟩,
   ⟨(some 22), (some (17, true)), .call 30 [(.t 19), (.t 21)], [], (.new [])⟩,
   ⟨(some 23), none, .pick (.t 17) (.t 22) (kB false), [], (.new [])⟩,
   ⟨(some 24), none, .mv (.t 23), [], (.new [])⟩,
   ⟨(some 25), (some (24, true)), .fieldA 3 (.t 2), [], (.new [])⟩,
   ⟨(some 26), (some (24, true)), .load none (.t 25), [], (.new [])⟩,
   ⟨(some 27), (some (24, true)), .fieldA 3 (.t 3), [], (.new [])⟩,
   ⟨(some 28), (some (24, true)), .load none (.t 27), [], (.new [])⟩,
   ⟨(some 29), (some (24, true)), .call 31 [(.t 26), (.t 28)], [], (.new [])⟩,
   ⟨(some 30), none, .pick (.t 24) (.t 29) (kB false), [], (.new [])⟩,
   ⟨(some 31), none, .mv (.t 30), [], (.new [])⟩,
   ⟨(some 32), (some (31, true)), .fieldA 4 (.t 2), [], (.new [])⟩,
   ⟨(some 33), (some (31, true)), .load none (.t 32), [], (.new [])⟩,
   ⟨(some 34), (some (31, true)), .fieldA 4 (.t 3), [], (.new [])⟩,
   ⟨(some 35), (some (31, true)), .load none (.t 34), [], (.new [])⟩,
   ⟨(some 36), (some (31, true)), .call 31 [(.t 33), (.t 35)], [], (.new [])⟩,
   ⟨(some 37), none, .pick (.t 31) (.t 36) (kB false), [], (.new [])⟩,
   ⟨(some 4), none, .mv (.t 37), [], (.new [])⟩]))
 .ret))⟩
theorem a13_ok : afn Try.prog 13 = some a13.er := by kernel_rfl
theorem F13_ok {x0 : WorkQueue} {x1 : WorkQueue} {r : Bool} (h : F13 x0 x1 = some r) : CallD Try.prog 13 [.agg [.d (.sl (x0.Ready.map eS)), .d (.sl (x0.Working.map eS)), .d (.sl (x0.Dirty.map eS)), .d (.sl (x0.Later.map eWorkItem)), .d (.sl (x0.Retries.map eWorkItem))], .agg [.d (.sl (x1.Ready.map eS)), .d (.sl (x1.Working.map eS)), .d (.sl (x1.Dirty.map eS)), .d (.sl (x1.Later.map eWorkItem)), .d (.sl (x1.Retries.map eWorkItem))]] [] (tupV [.c (.d (.v (.bool r)))]) [] := by
  refine callS a13_ok (by simp [a13]) ?_
  rw [F13] at h
  simp only [a13, VW.down, Nat.reduceEqDiff, reduceCtorEq, Nat.reduceAdd, Nat.reduceLeDiff, Nat.reduceLT, Nat.reduceBEq, Nat.reduceSub, EE.down]
  obtain ⟨o1, ho, h⟩ := Option.bind_eq_some_iff.1 h
  refine cutS (fun s => s = ⟨[(4, .one (.c (.d (.v (.bool o1)))))], []⟩) ?_ ?_
  · have h := ho
    clear ho
    simp only [VW.down, Nat.reduceEqDiff, reduceCtorEq, Nat.reduceAdd, Nat.reduceLeDiff, Nat.reduceLT, Nat.reduceBEq, Nat.reduceSub, EE.down]
    obtain ⟨t2, ht2, h⟩ := Option.bind_eq_some_iff.1 h
    refine callX_n [] (F30_ok ht2) ?_ ?_ ?_ ?_ ?_ ?_
    · first | rfl | simp [nrmA, nrmC, nrm, A1.ren, C.ren, rn, List.length_set]
    · simp [liveAll, A1.live, C.live]
    · rfl
    · decide
    · exact trivial
    simp only [VW.down, Nat.reduceEqDiff, reduceCtorEq, Nat.reduceAdd, Nat.reduceLeDiff, Nat.reduceLT, Nat.reduceBEq, Nat.reduceSub, EE.down]
    refine guardSB (fun g3 => ?_) (fun g3 => ?_)
    · have h := (if_pos g3).symm.trans h
      simp only [VW.down, Nat.reduceEqDiff, reduceCtorEq, Nat.reduceAdd, Nat.reduceLeDiff, Nat.reduceLT, Nat.reduceBEq, Nat.reduceSub, EE.down]
      obtain ⟨t4, ht4, h⟩ := Option.bind_eq_some_iff.1 h
      refine callX_n [] (F30_ok ht4) ?_ ?_ ?_ ?_ ?_ ?_
      · first | rfl | simp [nrmA, nrmC, nrm, A1.ren, C.ren, rn, List.length_set]
      · simp [liveAll, A1.live, C.live]
      · rfl
      · decide
      · exact trivial
      simp only [VW.down, Nat.reduceEqDiff, reduceCtorEq, Nat.reduceAdd, Nat.reduceLeDiff, Nat.reduceLT, Nat.reduceBEq, Nat.reduceSub, EE.down]
      refine guardSB (fun g5 => ?_) (fun g5 => ?_)
      · have h := (if_pos g5).symm.trans h
        simp only [VW.down, Nat.reduceEqDiff, reduceCtorEq, Nat.reduceAdd, Nat.reduceLeDiff, Nat.reduceLT, Nat.reduceBEq, Nat.reduceSub, EE.down]
        obtain ⟨t6, ht6, h⟩ := Option.bind_eq_some_iff.1 h
        refine callX_n [] (F30_ok ht6) ?_ ?_ ?_ ?_ ?_ ?_
        · first | rfl | simp [nrmA, nrmC, nrm, A1.ren, C.ren, rn, List.length_set]
        · simp [liveAll, A1.live, C.live]
        · rfl
        · decide
        · exact trivial
        simp only [VW.down, Nat.reduceEqDiff, reduceCtorEq, Nat.reduceAdd, Nat.reduceLeDiff, Nat.reduceLT, Nat.reduceBEq, Nat.reduceSub, EE.down]
        refine guardSB (fun g7 => ?_) (fun g7 => ?_)
        · have h := (if_pos g7).symm.trans h
          simp only [VW.down, Nat.reduceEqDiff, reduceCtorEq, Nat.reduceAdd, Nat.reduceLeDiff, Nat.reduceLT, Nat.reduceBEq, Nat.reduceSub, EE.down]
          obtain ⟨t8, ht8, h⟩ := Option.bind_eq_some_iff.1 h
          refine callX_n [] (F31_ok ht8) ?_ ?_ ?_ ?_ ?_ ?_
          · first | rfl | simp [nrmA, nrmC, nrm, A1.ren, C.ren, rn, List.length_set]
          · simp [liveAll, A1.live, C.live]
          · rfl
          · decide
          · exact trivial
          simp only [VW.down, Nat.reduceEqDiff, reduceCtorEq, Nat.reduceAdd, Nat.reduceLeDiff, Nat.reduceLT, Nat.reduceBEq, Nat.reduceSub, EE.down]
          refine guardSB (fun g9 => ?_) (fun g9 => ?_)
          · have h := (if_pos g9).symm.trans h
            simp only [VW.down, Nat.reduceEqDiff, reduceCtorEq, Nat.reduceAdd, Nat.reduceLeDiff, Nat.reduceLT, Nat.reduceBEq, Nat.reduceSub, EE.down]
            obtain ⟨t10, ht10, h⟩ := Option.bind_eq_some_iff.1 h
            refine callX_n [] (F31_ok ht10) ?_ ?_ ?_ ?_ ?_ ?_
            · first | rfl | simp [nrmA, nrmC, nrm, A1.ren, C.ren, rn, List.length_set]
            · simp [liveAll, A1.live, C.live]
            · rfl
            · decide
            · exact trivial
            simp only [VW.down, Nat.reduceEqDiff, reduceCtorEq, Nat.reduceAdd, Nat.reduceLeDiff, Nat.reduceLT, Nat.reduceBEq, Nat.reduceSub, EE.down]
            obtain rfl := Option.some.inj h
            exact eM [] rfl
          · have h := (if_neg g9).symm.trans h
            simp only [VW.down, Nat.reduceEqDiff, reduceCtorEq, Nat.reduceAdd, Nat.reduceLeDiff, Nat.reduceLT, Nat.reduceBEq, Nat.reduceSub, EE.down]
            obtain rfl := Option.some.inj h
            exact eM [] rfl
        · have h := (if_neg g7).symm.trans h
          simp only [VW.down, Nat.reduceEqDiff, reduceCtorEq, Nat.reduceAdd, Nat.reduceLeDiff, Nat.reduceLT, Nat.reduceBEq, Nat.reduceSub, EE.down]
          obtain rfl := Option.some.inj h
          exact eM [] rfl
      · have h := (if_neg g5).symm.trans h
        simp only [VW.down, Nat.reduceEqDiff, reduceCtorEq, Nat.reduceAdd, Nat.reduceLeDiff, Nat.reduceLT, Nat.reduceBEq, Nat.reduceSub, EE.down]
        obtain rfl := Option.some.inj h
        exact eM [] rfl
    · have h := (if_neg g3).symm.trans h
      simp only [VW.down, Nat.reduceEqDiff, reduceCtorEq, Nat.reduceAdd, Nat.reduceLeDiff, Nat.reduceLT, Nat.reduceBEq, Nat.reduceSub, EE.down]
      obtain rfl := Option.some.inj h
      exact eM [] rfl
  · rintro _ rfl
    clear ho
    simp only [VW.down, Nat.reduceEqDiff, reduceCtorEq, Nat.reduceAdd, Nat.reduceLeDiff, Nat.reduceLT, Nat.reduceBEq, Nat.reduceSub, EE.down]
    obtain rfl := Option.some.inj h
    exact eF []

/- orchestrator/orchestratorlaw31.WorkqueuePlays -/
def F3_l6  : List Op → Nat → ((List ByteArray)) → (List ByteArray) → (List ByteArray) → (List WorkItem) → (List WorkItem) → ((List ByteArray)) → (List ByteArray) → (List ByteArray) → (List WorkItem) → (List WorkItem) → Option ((Bool) ⊕ (Unit))
  | [], o6_10, o6_0, o6_1, o6_2, o6_3, o6_4, o6_5, o6_6, o6_7, o6_8, o6_9 => some (Sum.inr (()))
  | xo6 :: xs, o6_10, o6_0, o6_1, o6_2, o6_3, o6_4, o6_5, o6_6, o6_7, o6_8, o6_9 => (F11 ((⟨o6_0, o6_1, o6_2, o6_3, o6_4⟩ : WorkQueue)) xo6).bind fun t8 => (F12 ((⟨o6_5, o6_6, o6_7, o6_8, o6_9⟩ : WorkQueue)) xo6).bind fun t9 => (((F13 ((⟨t8.1, t8.2.1, t8.2.2.1, t8.2.2.2.1, t8.2.2.2.2.1⟩ : WorkQueue)) ((⟨t9.1, t9.2.1, t9.2.2.1, t9.2.2.2.1, t9.2.2.2.2.1⟩ : WorkQueue))).bind fun t11 => (if (nb t11) = true then some true else (if ¬ (t8.2.2.2.2.2.1 = t9.2.2.2.2.2.1) then some true else (if (((t8.2.2.2.2.2.2 == t9.2.2.2.2.2.2) != true)) = true then some true else (F13 ((⟨o6_0, o6_1, o6_2, o6_3, o6_4⟩ : WorkQueue)) ((⟨o6_5, o6_6, o6_7, o6_8, o6_9⟩ : WorkQueue))).bind fun t15 => some (nb t15))))).bind fun o10 => (if o10 = true then (some false).map Sum.inl else F3_l6  xs (o6_10 + 1) t8.1 t8.2.1 t8.2.2.1 t8.2.2.2.1 t8.2.2.2.2.1 t9.1 t9.2.1 t9.2.2.1 t9.2.2.2.1 t9.2.2.2.2.1))
def F3 (x0 : (List Op)) : Option (Bool) := (F7 x0).bind fun t1 => (if t1 = true then (F8).bind fun t3 => some t3 else (F9).bind fun t4 => (F10).bind fun t5 => (((ck (0 ≤ x0.length ∧ x0.length ≤ 4294967290)).bind fun u17 => F3_l6 x0 0 ([]) ([]) ([]) ([]) ([]) ([]) ([]) ([]) ([]) ([])).bind fun o6 => match o6 with | Sum.inl f => some f | Sum.inr po6 => (F8).bind fun t18 => some t18))
def a3 : AFn := ⟨66, [(.tmp 2)],
 (.seq (.reg [⟨(some 2), none, .mv (kB false), [], (.new [])⟩])
 (.seq (.seq (.reg [⟨(some 12), none, .mv (.t 0), [], (.new [])⟩,
   ⟨(some 13), none, .call 7 [(.t 12)], [], (.lone [])⟩])
 (.cond (.t 13)
 (.seq (.reg [⟨(some 14), none, .call 8 [], [], (.new [])⟩,
   ⟨(some 2), none, .mv (.t 14), [], (.new [])⟩])
 .ret)
 .skip))
 (.seq (.reg [⟨(some 15), none, .call 9 [], [], (.new [])⟩,
   ⟨(some 16), none, .call 10 [], [], (.new [])⟩,
   ⟨(some 3), none, .zbox [.d (.v (.slice none 0 0)), .d (.v (.slice none 0 0)), .d (.v (.slice none 0 0)), .d (.v (.slice none 0 0)), .d (.v (.slice none 0 0))], [], (.new [])⟩,
   ⟨(some 4), none, .zbox [.d (.v (.slice none 0 0)), .d (.v (.slice none 0 0)), .d (.v (.slice none 0 0)), .d (.v (.slice none 0 0)), .d (.v (.slice none 0 0))], [], (.new [])⟩,
   ⟨none, none, .store 5 (.t 3) (.t 15), [], (.new [])⟩,
   ⟨none, none, .store 5 (.t 4) (.t 16), [], (.new [])⟩])
 (.seq (.seq (.reg [⟨(some 5), none, .mv (kI 0), [], (.new [])⟩])
 (.sem (.block 0 (.loop (.seq (.seq (.reg [⟨(some 17), none, .mv (.t 5), [], (.new [])⟩,
   ⟨(some 18), none, .mv (.t 0), [], (.new [])⟩,
   ⟨(some 19), none, .len (.t 18), [], (.new [])⟩,
   ⟨(some 20), none, .bin .lss (.t 17) (.t 19), [], (.new [])⟩])
 (.cond (.t 20)
 .skip
 (.exit 0)))
 (.seq (.block 1 (.seq (.regd [⟨(some 24), none, .load (some 5) (.t 3), [], (.new [])⟩,
   ⟨(some 25), none, .mv (.t 0), [], (.new [])⟩,
   ⟨(some 26), none, .mv (.t 5), [], (.new [])⟩,
   ⟨(some 27), none, .indexA 5 (.t 25) (.t 26), [1, 2], (.new [])⟩,
   ⟨(some 28), none, .load (some 5) (.t 27), [1, 2, 3], (.new [])⟩,
   ⟨(some 29), none, .call 11 [(.t 24), (.t 28)], [0, 1, 2, 3, 4], (.new [0, 1, 2, 3, 4])⟩,
   ⟨(some 23), none, .mv (.t 29), [0, 1, 2, 3, 4, 5], (.new [])⟩,
   ⟨(some 30), none, .ext (.t 23) 0, [0, 1, 2, 3, 4, 5, 6], (.new [])⟩,
   ⟨(some 31), none, .ext (.t 23) 1, [0, 1, 2, 3, 4, 5, 6], (.new [])⟩,
   ⟨(some 32), none, .ext (.t 23) 2, [0, 1, 2, 3, 4, 5, 6], (.new [])⟩,
   ⟨(some 6), none, .zbox [.d (.v (.slice none 0 0)), .d (.v (.slice none 0 0)), .d (.v (.slice none 0 0)), .d (.v (.slice none 0 0)), .d (.v (.slice none 0 0))], [], (.new [])⟩,
   ⟨none, none, .store 5 (.t 6) (.t 30), [0, 1, 2, 3, 4, 5, 6, 7, 10], (.lone [])⟩,
   ⟨(some 7), none, .mv (.t 31), [0, 1, 2, 3, 4, 5, 6, 7, 8, 10, 11], (.new [])⟩,
   ⟨(some 8), none, .mv (.t 32), [0, 1, 2, 3, 4, 5, 6, 7, 8, 9, 10, 11, 12], (.new [])⟩])
 (.seq (.regd [⟨(some 34), none, .load (some 5) (.t 4), [], (.new [])⟩,
   ⟨(some 35), none, .mv (.t 0), [], (.new [])⟩,
   ⟨(some 36), none, .mv (.t 5), [], (.new [])⟩,
   ⟨(some 37), none, .indexA 5 (.t 35) (.t 36), [1, 2], (.new [])⟩,
   ⟨(some 38), none, .load (some 5) (.t 37), [1, 2, 3], (.new [])⟩,
   ⟨(some 39), none, .call 12 [(.t 34), (.t 38)], [0, 1, 2, 3, 4], (.new [0, 1, 2, 3, 4])⟩,
   ⟨(some 33), none, .mv (.t 39), [0, 1, 2, 3, 4, 5], (.new [])⟩,
   ⟨(some 40), none, .ext (.t 33) 0, [0, 1, 2, 3, 4, 5, 6], (.new [])⟩,
   ⟨(some 41), none, .ext (.t 33) 1, [0, 1, 2, 3, 4, 5, 6], (.new [])⟩,
   ⟨(some 42), none, .ext (.t 33) 2, [0, 1, 2, 3, 4, 5, 6], (.new [])⟩,
   ⟨(some 9), none, .zbox [.d (.v (.slice none 0 0)), .d (.v (.slice none 0 0)), .d (.v (.slice none 0 0)), .d (.v (.slice none 0 0)), .d (.v (.slice none 0 0))], [], (.new [])⟩,
   ⟨none, none, .store 5 (.t 9) (.t 40), [0, 1, 2, 3, 4, 5, 6, 7, 10], (.lone [])⟩,
   ⟨(some 10), none, .mv (.t 41), [0, 1, 2, 3, 4, 5, 6, 7, 8, 10, 11], (.new [])⟩,
   ⟨(some 11), none, .mv (.t 42), [0, 1, 2, 3, 4, 5, 6, 7, 8, 9, 10, 11, 12], (.new [])⟩])
 (.seq (.seq (.sem (.reg [⟨(some 43), none, .load (some 5) (.t 6), [], (.new [])⟩,
   ⟨(some 44), none, .load (some 5) (.t 9), [], (.new [])⟩,
   ⟨(some 45), none, .call 13 [(.t 43), (.t 44)], [], (.new [])⟩,
   ⟨(some 46), none, .not (.t 45), [], (.new [])⟩,
   ⟨(some 47), none, .mv (.t 46), [], (.new [])⟩,
   ⟨(some 48), (some (47, false)), .mv (.t 7), [], (.new [])⟩,
   ⟨(some 49), (some (47, false)), .mv (.t 10), [], (.new [])⟩,
   ⟨(some 50), (some (47, false)), .bin .neq (.t 48) (.t 49), [], (.new [])⟩,
   ⟨(some 51), none, .pick (.t 47) (kB true) (.t 50), [], (.new [])⟩,
   ⟨(some 52), none, .mv (.t 51), [], (.new [])⟩,
   ⟨(some 53), (some (52, false)), .mv (.t 8), [], (.new [])⟩,
   ⟨(some 54), (some (52, false)), .mv (.t 11), [], (.new [])⟩,
   ⟨(some 55), (some (52, false)), .beq true (.t 53) (.t 54), [], (.new [])⟩,
   ⟨(some 56), none, .pick (.t 52) (kB true) (.t 55), [], (.new [])⟩,
   ⟨(some 57), none, .mv (.t 56), [], (.new [])⟩,
   ⟨(some 58), (some (57, false)), .load (some 5) (.t 3), [], (.new [])⟩,
   ⟨(some 59), (some (57, false)), .load (some 5) (.t 4), [], (.new [])⟩,
   ⟨(some 60), (some (57, false)), .call 13 [(.t 58), (.t 59)], [], (.new [])⟩,
   ⟨(some 61), (some (57, false)), .not (.t 60), [], (.new [])⟩,
   ⟨(some 62), none, .pick (.t 57) (kB true) (.t 61), [], (.new [])⟩]))
 (.cond (.t 62)
 (.seq (.reg [⟨(some 2), none, .mv (kB false), [], (.new [])⟩])
 .ret)
 .skip))
 (.seq (.reg [⟨(some 63), none, .load (some 5) (.t 6), [], (.new [])⟩,
   ⟨none, none, .store 5 (.t 3) (.t 63), [], (.lone [6])⟩])
 (.reg [⟨(some 64), none, .load (some 5) (.t 9), [], (.new [])⟩,
   ⟨none, none, .store 5 (.t 4) (.t 64), [], (.lone [9])⟩]))))))
 (.reg [⟨(some 21), none, .mv (.t 5), [], (.new [])⟩,
   ⟨(some 22), none, .bin .add (.t 21) (kI 1), [], (.new [])⟩,
   ⟨(some 5), none, .mv (.t 22), [], (.new [])⟩])))))))
 (.seq (.reg [⟨(some 65), none, .call 8 [], [], (.new [])⟩,
   ⟨(some 2), none, .mv (.t 65), [], (.new [])⟩])
 .ret)))))⟩
theorem a3_ok : afn Try.prog 3 = some a3.er := by kernel_rfl
theorem F3_ok {x0 : (List Op)} {r : Bool} (h : F3 x0 = some r) : CallD Try.prog 3 [.c (.d (.sl (x0.map eOp)))] [] (tupV [.c (.d (.v (.bool r)))]) [] := by
  refine callS a3_ok (by simp [a3]) ?_
  rw [F3] at h
  simp only [a3, VW.down, Nat.reduceEqDiff, reduceCtorEq, Nat.reduceAdd, Nat.reduceLeDiff, Nat.reduceLT, Nat.reduceBEq, Nat.reduceSub, EE.down]
  obtain ⟨t1, ht1, h⟩ := Option.bind_eq_some_iff.1 h
  refine callX_n [] (F7_ok ht1) ?_ ?_ ?_ ?_ ?_ ?_
  · first | rfl | simp [nrmA, nrmC, nrm, A1.ren, C.ren, rn, List.length_set]
  · simp [liveAll, A1.live, C.live]
  · rfl
  · decide
  · exact trivial
  simp only [VW.down, Nat.reduceEqDiff, reduceCtorEq, Nat.reduceAdd, Nat.reduceLeDiff, Nat.reduceLT, Nat.reduceBEq, Nat.reduceSub, EE.down]
  refine condB (fun c2 => ?_) (fun c2 => ?_)
  · have h := (if_pos c2).symm.trans h
    simp only [VW.down, Nat.reduceEqDiff, reduceCtorEq, Nat.reduceAdd, Nat.reduceLeDiff, Nat.reduceLT, Nat.reduceBEq, Nat.reduceSub, EE.down]
    obtain ⟨t3, ht3, h⟩ := Option.bind_eq_some_iff.1 h
    refine callX_n [] (F8_ok ht3) ?_ ?_ ?_ ?_ ?_ ?_
    · first | rfl | simp [nrmA, nrmC, nrm, A1.ren, C.ren, rn, List.length_set]
    · simp [liveAll, A1.live, C.live]
    · rfl
    · decide
    · exact trivial
    simp only [VW.down, Nat.reduceEqDiff, reduceCtorEq, Nat.reduceAdd, Nat.reduceLeDiff, Nat.reduceLT, Nat.reduceBEq, Nat.reduceSub, EE.down]
    obtain rfl := Option.some.inj h
    exact eF []
  · have h := (if_neg c2).symm.trans h
    simp only [VW.down, Nat.reduceEqDiff, reduceCtorEq, Nat.reduceAdd, Nat.reduceLeDiff, Nat.reduceLT, Nat.reduceBEq, Nat.reduceSub, EE.down]
    obtain ⟨t4, ht4, h⟩ := Option.bind_eq_some_iff.1 h
    refine callX_n [] (F9_ok ht4) ?_ ?_ ?_ ?_ ?_ ?_
    · first | rfl | simp [nrmA, nrmC, nrm, A1.ren, C.ren, rn, List.length_set]
    · simp [liveAll, A1.live, C.live]
    · rfl
    · decide
    · exact trivial
    simp only [VW.down, Nat.reduceEqDiff, reduceCtorEq, Nat.reduceAdd, Nat.reduceLeDiff, Nat.reduceLT, Nat.reduceBEq, Nat.reduceSub, EE.down]
    obtain ⟨t5, ht5, h⟩ := Option.bind_eq_some_iff.1 h
    refine callX_n [] (F10_ok ht5) ?_ ?_ ?_ ?_ ?_ ?_
    · first | rfl | simp [nrmA, nrmC, nrm, A1.ren, C.ren, rn, List.length_set]
    · simp [liveAll, A1.live, C.live]
    · rfl
    · decide
    · exact trivial
    simp only [VW.down, Nat.reduceEqDiff, reduceCtorEq, Nat.reduceAdd, Nat.reduceLeDiff, Nat.reduceLT, Nat.reduceBEq, Nat.reduceSub, EE.down]
    obtain ⟨o6, ho, h⟩ := Option.bind_eq_some_iff.1 h
    refine cutS (fun s => ∃ po6, o6 = Sum.inr po6 ∧ s = ⟨[], []⟩) ?_ ?_
    · have h0o6 := h
      have h := ho
      clear ho
      obtain ⟨_, hk, h⟩ := Option.bind_eq_some_iff.1 h
      have hk := ck_some hk
      simp only [VW.down, Nat.reduceEqDiff, reduceCtorEq, Nat.reduceAdd, Nat.reduceLeDiff, Nat.reduceLT, Nat.reduceBEq, Nat.reduceSub, EE.down]
      refine bL (fun j s => ∃ (o6_10 : Nat) (o6_0 : (List ByteArray)) (o6_1 : List ByteArray) (o6_2 : List ByteArray) (o6_3 : List WorkItem) (o6_4 : List WorkItem) (o6_5 : (List ByteArray)) (o6_6 : List ByteArray) (o6_7 : List ByteArray) (o6_8 : List WorkItem) (o6_9 : List WorkItem), (o6_10 ≤ x0.length ∧ j = x0.length - o6_10) ∧ s = ⟨[(0, .one (.c (.d (.sl (x0.map eOp))))), (3, .one (.c (.pt 0 0))), (4, .one (.c (.pt 1 0))), (5, .one (.c (.d (.v (.int .i64 ((o6_10 : Int)))))))], [some (.box [.d (.sl (o6_0.map eS)), .d (.sl (o6_1.map eS)), .d (.sl (o6_2.map eS)), .d (.sl (o6_3.map eWorkItem)), .d (.sl (o6_4.map eWorkItem))]), some (.box [.d (.sl (o6_5.map eS)), .d (.sl (o6_6.map eS)), .d (.sl (o6_7.map eS)), .d (.sl (o6_8.map eWorkItem)), .d (.sl (o6_9.map eWorkItem))])]⟩ ∧ F3_l6 (x0.drop o6_10) o6_10 o6_0 o6_1 o6_2 o6_3 o6_4 o6_5 o6_6 o6_7 o6_8 o6_9 = some o6) (x0.length - 0) [some 0, some 1] ⟨0, [], [], [], [], [], [], [], [], [], [], ⟨hk.1, rfl⟩, rfl, h⟩ ?_
      rintro _ _ ⟨o6_10, o6_0, o6_1, o6_2, o6_3, o6_4, o6_5, o6_6, o6_7, o6_8, o6_9, ⟨hi, rfl⟩, rfl, h⟩
      simp only [VW.down, Nat.reduceEqDiff, reduceCtorEq, Nat.reduceAdd, Nat.reduceLeDiff, Nat.reduceLT, Nat.reduceBEq, Nat.reduceSub, EE.down]
      refine condS (fun c7 => ?_) (fun c7 => ?_)
      · obtain ⟨xo6, hxo6, hd⟩ := countY c7
        rw [hd, F3_l6] at h
        simp only [VW.down, Nat.reduceEqDiff, reduceCtorEq, Nat.reduceAdd, Nat.reduceLeDiff, Nat.reduceLT, Nat.reduceBEq, Nat.reduceSub, EE.down]
        refine t_idxF (enc := eOp) (xs := x0) rfl rfl hxo6 rfl ?_
        simp only [VW.down, Nat.reduceEqDiff, reduceCtorEq, Nat.reduceAdd, Nat.reduceLeDiff, Nat.reduceLT, Nat.reduceBEq, Nat.reduceSub, EE.down]
        obtain ⟨t8, ht8, h⟩ := Option.bind_eq_some_iff.1 h
        refine callX_n [] (F11_ok ht8) ?_ ?_ ?_ ?_ ?_ ?_
        · first | rfl | simp [nrmA, nrmC, nrm, A1.ren, C.ren, rn, List.length_set]
        · simp [liveAll, A1.live, C.live]
        · rfl
        · decide
        · exact trivial
        simp only [VW.down, Nat.reduceEqDiff, reduceCtorEq, Nat.reduceAdd, Nat.reduceLeDiff, Nat.reduceLT, Nat.reduceBEq, Nat.reduceSub, EE.down]
        refine kD_new (by simp [wrs, allW, hset]) ?_
        simp only [VW.down, Nat.reduceEqDiff, reduceCtorEq, Nat.reduceAdd, Nat.reduceLeDiff, Nat.reduceLT, Nat.reduceBEq, Nat.reduceSub, EE.down]
        refine kD_new (by simp [wrs, allW, hset]) ?_
        simp only [VW.down, Nat.reduceEqDiff, reduceCtorEq, Nat.reduceAdd, Nat.reduceLeDiff, Nat.reduceLT, Nat.reduceBEq, Nat.reduceSub, EE.down]
        refine t_idxF (enc := eOp) (xs := x0) rfl rfl hxo6 rfl ?_
        simp only [VW.down, Nat.reduceEqDiff, reduceCtorEq, Nat.reduceAdd, Nat.reduceLeDiff, Nat.reduceLT, Nat.reduceBEq, Nat.reduceSub, EE.down]
        obtain ⟨t9, ht9, h⟩ := Option.bind_eq_some_iff.1 h
        refine callX_n [] (F12_ok ht9) ?_ ?_ ?_ ?_ ?_ ?_
        · first | rfl | simp [nrmA, nrmC, nrm, A1.ren, C.ren, rn, List.length_set]
        · simp [liveAll, A1.live, C.live]
        · rfl
        · decide
        · exact trivial
        simp only [VW.down, Nat.reduceEqDiff, reduceCtorEq, Nat.reduceAdd, Nat.reduceLeDiff, Nat.reduceLT, Nat.reduceBEq, Nat.reduceSub, EE.down]
        refine kD_new (by simp [wrs, allW, hset]) ?_
        simp only [VW.down, Nat.reduceEqDiff, reduceCtorEq, Nat.reduceAdd, Nat.reduceLeDiff, Nat.reduceLT, Nat.reduceBEq, Nat.reduceSub, EE.down]
        refine kD_new (by simp [wrs, allW, hset]) ?_
        simp only [VW.down, Nat.reduceEqDiff, reduceCtorEq, Nat.reduceAdd, Nat.reduceLeDiff, Nat.reduceLT, Nat.reduceBEq, Nat.reduceSub, EE.down]
        obtain ⟨o10, ho, h⟩ := Option.bind_eq_some_iff.1 h
        refine cutS (fun s => s = ⟨[(0, .one (.c (.d (.sl (x0.map eOp))))), (3, .one (.c (.pt 0 0))), (4, .one (.c (.pt 1 0))), (5, .one (.c (.d (.v (.int .i64 ((o6_10 : Int))))))), (6, .one (.c (.pt 2 0))), (9, .one (.c (.pt 7 0))), (62, .one (.c (.d (.v (.bool o10)))))], [some (.box [.d (.sl (o6_0.map eS)), .d (.sl (o6_1.map eS)), .d (.sl (o6_2.map eS)), .d (.sl (o6_3.map eWorkItem)), .d (.sl (o6_4.map eWorkItem))]), some (.box [.d (.sl (o6_5.map eS)), .d (.sl (o6_6.map eS)), .d (.sl (o6_7.map eS)), .d (.sl (o6_8.map eWorkItem)), .d (.sl (o6_9.map eWorkItem))]), some (.box [.d (.sl (t8.1.map eS)), .own 3 0 0 (t8.2.1.length) none, .own 4 0 0 (t8.2.2.1.length) none, .own 5 0 0 (t8.2.2.2.1.length) none, .own 6 0 0 (t8.2.2.2.2.1.length) none]), some (.arr 0 1 (t8.2.1.map eS)), some (.arr 0 1 (t8.2.2.1.map eS)), some (.arr 0 2 (t8.2.2.2.1.map eWorkItem)), some (.arr 0 2 (t8.2.2.2.2.1.map eWorkItem)), some (.box [.d (.sl (t9.1.map eS)), .own 8 0 0 (t9.2.1.length) none, .own 9 0 0 (t9.2.2.1.length) none, .own 10 0 0 (t9.2.2.2.1.length) none, .own 11 0 0 (t9.2.2.2.2.1.length) none]), some (.arr 0 1 (t9.2.1.map eS)), some (.arr 0 1 (t9.2.2.1.map eS)), some (.arr 0 2 (t9.2.2.2.1.map eWorkItem)), some (.arr 0 2 (t9.2.2.2.2.1.map eWorkItem))]⟩) ?_ ?_
        · have h := ho
          clear ho
          simp only [VW.down, Nat.reduceEqDiff, reduceCtorEq, Nat.reduceAdd, Nat.reduceLeDiff, Nat.reduceLT, Nat.reduceBEq, Nat.reduceSub, EE.down]
          obtain ⟨t11, ht11, h⟩ := Option.bind_eq_some_iff.1 h
          refine callX_bor (F13_ok ht11) (by simp only [borAs, bors, hp, List.getElem?_cons_zero, List.getElem?_cons_succ, Option.join_some, List.drop_zero, bor_full', true_and, Nat.zero_add, List.length_map, Nat.le_refl, nrm, List.length_cons, List.length_nil, Nat.reduceAdd, Nat.reduceLeDiff, List.take_succ_cons, List.take_zero, List.take_nil, List.map_cons, List.map_nil, List.length_set, EE.down]) rfl ?_
          simp only [VW.down, Nat.reduceEqDiff, reduceCtorEq, Nat.reduceAdd, Nat.reduceLeDiff, Nat.reduceLT, Nat.reduceBEq, Nat.reduceSub, EE.down]
          refine guardSB (fun g12 => ?_) (fun g12 => ?_)
          · have h := (if_pos g12).symm.trans h
            simp only [VW.down, Nat.reduceEqDiff, reduceCtorEq, Nat.reduceAdd, Nat.reduceLeDiff, Nat.reduceLT, Nat.reduceBEq, Nat.reduceSub, EE.down]
            obtain rfl := Option.some.inj h
            exact eM [some 0, some 1, some 6, some 2, some 3, some 4, some 5, some 11, some 7, some 8, some 9, some 10] rfl
          · have h := (if_neg g12).symm.trans h
            simp only [VW.down, Nat.reduceEqDiff, reduceCtorEq, Nat.reduceAdd, Nat.reduceLeDiff, Nat.reduceLT, Nat.reduceBEq, Nat.reduceSub, EE.down]
            refine guardS (fun g13 => ?_) (fun g13 => ?_)
            · have h := (if_pos g13).symm.trans h
              simp only [VW.down, Nat.reduceEqDiff, reduceCtorEq, Nat.reduceAdd, Nat.reduceLeDiff, Nat.reduceLT, Nat.reduceBEq, Nat.reduceSub, EE.down]
              obtain rfl := Option.some.inj h
              exact eM [some 0, some 1, some 6, some 2, some 3, some 4, some 5, some 11, some 7, some 8, some 9, some 10] rfl
            · have h := (if_neg g13).symm.trans h
              simp only [VW.down, Nat.reduceEqDiff, reduceCtorEq, Nat.reduceAdd, Nat.reduceLeDiff, Nat.reduceLT, Nat.reduceBEq, Nat.reduceSub, EE.down]
              refine guardSB (fun g14 => ?_) (fun g14 => ?_)
              · have h := (if_pos g14).symm.trans h
                simp only [VW.down, Nat.reduceEqDiff, reduceCtorEq, Nat.reduceAdd, Nat.reduceLeDiff, Nat.reduceLT, Nat.reduceBEq, Nat.reduceSub, EE.down]
                obtain rfl := Option.some.inj h
                exact eM [some 0, some 1, some 6, some 2, some 3, some 4, some 5, some 11, some 7, some 8, some 9, some 10] rfl
              · have h := (if_neg g14).symm.trans h
                simp only [VW.down, Nat.reduceEqDiff, reduceCtorEq, Nat.reduceAdd, Nat.reduceLeDiff, Nat.reduceLT, Nat.reduceBEq, Nat.reduceSub, EE.down]
                obtain ⟨t15, ht15, h⟩ := Option.bind_eq_some_iff.1 h
                refine callX_n [] (F13_ok ht15) ?_ ?_ ?_ ?_ ?_ ?_
                · first | rfl | simp [nrmA, nrmC, nrm, A1.ren, C.ren, rn, List.length_set]
                · simp [liveAll, A1.live, C.live]
                · rfl
                · decide
                · exact trivial
                simp only [VW.down, Nat.reduceEqDiff, reduceCtorEq, Nat.reduceAdd, Nat.reduceLeDiff, Nat.reduceLT, Nat.reduceBEq, Nat.reduceSub, EE.down]
                obtain rfl := Option.some.inj h
                exact eM [some 0, some 1, some 6, some 2, some 3, some 4, some 5, some 11, some 7, some 8, some 9, some 10] rfl
        · rintro _ rfl
          clear ho
          simp only [VW.down, Nat.reduceEqDiff, reduceCtorEq, Nat.reduceAdd, Nat.reduceLeDiff, Nat.reduceLT, Nat.reduceBEq, Nat.reduceSub, EE.down]
          refine condB (fun c16 => ?_) (fun c16 => ?_)
          · have h := (if_pos c16).symm.trans h
            simp only [VW.down, Nat.reduceEqDiff, reduceCtorEq, Nat.reduceAdd, Nat.reduceLeDiff, Nat.reduceLT, Nat.reduceBEq, Nat.reduceSub, EE.down]
            obtain ⟨fh0o6, hfh0o6, rfl⟩ := Option.map_eq_some_iff.1 h
            have h := hfh0o6.trans h0o6
            obtain rfl := Option.some.inj h
            exact eF []
          · have h := (if_neg c16).symm.trans h
            simp only [VW.down, Nat.reduceEqDiff, reduceCtorEq, Nat.reduceAdd, Nat.reduceLeDiff, Nat.reduceLT, Nat.reduceBEq, Nat.reduceSub, EE.down]
            rw [wrapN (by omega)]
            exact eL' (x0.length - (o6_10 + 1)) [some 0, some 1] ⟨o6_10 + 1, t8.1, t8.2.1, t8.2.2.1, t8.2.2.2.1, t8.2.2.2.2.1, t9.1, t9.2.1, t9.2.2.1, t9.2.2.2.1, t9.2.2.2.2.1, ⟨by omega, rfl⟩, rfl, h⟩ (by omega)
      · rw [countN c7, F3_l6] at h
        simp only [VW.down, Nat.reduceEqDiff, reduceCtorEq, Nat.reduceAdd, Nat.reduceLeDiff, Nat.reduceLT, Nat.reduceBEq, Nat.reduceSub, EE.down]
        obtain rfl := Option.some.inj h
        exact eM [] ⟨_, rfl, rfl⟩
    · rintro _ ⟨po6, rfl, rfl⟩
      clear ho
      dsimp only at h
      simp only [VW.down, Nat.reduceEqDiff, reduceCtorEq, Nat.reduceAdd, Nat.reduceLeDiff, Nat.reduceLT, Nat.reduceBEq, Nat.reduceSub, EE.down]
      obtain ⟨t18, ht18, h⟩ := Option.bind_eq_some_iff.1 h
      refine callX_n [] (F8_ok ht18) ?_ ?_ ?_ ?_ ?_ ?_
      · first | rfl | simp [nrmA, nrmC, nrm, A1.ren, C.ren, rn, List.length_set]
      · simp [liveAll, A1.live, C.live]
      · rfl
      · decide
      · exact trivial
      simp only [VW.down, Nat.reduceEqDiff, reduceCtorEq, Nat.reduceAdd, Nat.reduceLeDiff, Nat.reduceLT, Nat.reduceBEq, Nat.reduceSub, EE.down]
      obtain rfl := Option.some.inj h
      exact eF []

/- orchestrator/orchestratorlaw31.WorkqueueInvariant -/
def F4_l5  : List Op → Nat → ((List ByteArray)) → (List ByteArray) → (List ByteArray) → (List WorkItem) → (List WorkItem) → Option (WorkQueue)
  | [], o5_5, o5_0, o5_1, o5_2, o5_3, o5_4 => some ((⟨o5_0, o5_1, o5_2, o5_3, o5_4⟩ : WorkQueue))
  | xo5 :: xs, o5_5, o5_0, o5_1, o5_2, o5_3, o5_4 => (F11 ((⟨o5_0, o5_1, o5_2, o5_3, o5_4⟩ : WorkQueue)) xo5).bind fun t7 => F4_l5  xs (o5_5 + 1) t7.1 t7.2.1 t7.2.2.1 t7.2.2.2.1 t7.2.2.2.2.1
def F4_l9 (o5 : WorkQueue) : List ByteArray → Nat → Option ((Bool) ⊕ (Unit))
  | [], o9_0 => some (Sum.inr (()))
  | xo9 :: xs, o9_0 => (((slI ((o5).Ready) 0 ((o9_0 : Int))).bind fun s12 => (rdI ((o5).Ready) ((o9_0 : Int))).bind fun y13 => (F14 s12 y13).bind fun t14 => (if t14 = true then some true else (F14 ((o5).Working) y13).bind fun t16 => some t16)).bind fun o11 => (if o11 = true then (some false).map Sum.inl else F4_l9 o5 xs (o9_0 + 1)))
def F4_l19 (o5 : WorkQueue) : List ByteArray → Nat → Option ((Bool) ⊕ (Unit))
  | [], o19_0 => some (Sum.inr (()))
  | xo19 :: xs, o19_0 => (((rdI ((o5).Dirty) ((o19_0 : Int))).bind fun y22 => (F14 ((o5).Working) y22).bind fun t23 => (if (nb t23) = true then some true else (if 0 < (o19_0 : Int) then (rdI ((o5).Dirty) ((IntKind.i64.wrap (((o19_0 : Int)) - 1)))).bind fun y26 => some ((Op.bytesLess y22.toList y26.toList || decide (y22 = y26))) else some false))).bind fun o21 => (if o21 = true then (some false).map Sum.inl else F4_l19 o5 xs (o19_0 + 1)))
def F4_l29 (o5 : WorkQueue) : Nat → Int → Option ((Bool) ⊕ (Unit))
  | 0, _ => none
  | k + 1, o29_0 => (if o29_0 < (((o5).Working).length : Int) then (rdI ((o5).Working) o29_0).bind fun y31 => (rdI ((o5).Working) ((IntKind.i64.wrap (o29_0 - 1)))).bind fun y32 => (if ((Op.bytesLess y31.toList y32.toList || decide (y31 = y32))) = true then (some false).map Sum.inl else F4_l29 o5 k ((IntKind.i64.wrap (o29_0 + 1)))) else some (Sum.inr (())))
def F4 (x0 : (List Op)) : Option (Bool) := (F7 x0).bind fun t1 => (if t1 = true then (F8).bind fun t3 => some t3 else (F9).bind fun t4 => (((ck (0 ≤ x0.length ∧ x0.length ≤ 4294967290)).bind fun u8 => F4_l5 x0 0 ([]) ([]) ([]) ([]) ([])).bind fun o5 => (((ck (0 ≤ (((o5).Ready)).length ∧ (((o5).Ready)).length ≤ 4294967290)).bind fun u18 => F4_l9 o5 (((o5).Ready)) 0).bind fun o9 => match o9 with | Sum.inl f => some f | Sum.inr po9 => (((ck (0 ≤ (((o5).Dirty)).length ∧ (((o5).Dirty)).length ≤ 4294967290)).bind fun u28 => F4_l19 o5 (((o5).Dirty)) 0).bind fun o19 => match o19 with | Sum.inl f => some f | Sum.inr po19 => ((F4_l29 o5 1099511627776 1).bind fun o29 => match o29 with | Sum.inl f => some f | Sum.inr po29 => (F8).bind fun t34 => some t34)))))
def a4 : AFn := ⟨113, [(.tmp 2)],
 (.seq (.reg [⟨(some 2), none, .mv (kB false), [], (.new [])⟩])
 (.seq (.seq (.reg [⟨(some 11), none, .mv (.t 0), [], (.new [])⟩,
   ⟨(some 12), none, .call 7 [(.t 11)], [], (.lone [])⟩])
 (.cond (.t 12)
 (.seq (.reg [⟨(some 13), none, .call 8 [], [], (.new [])⟩,
   ⟨(some 2), none, .mv (.t 13), [], (.new [])⟩])
 .ret)
 .skip))
 (.seq (.reg [⟨(some 14), none, .call 9 [], [], (.new [])⟩,
   ⟨(some 3), none, .zbox [.d (.v (.slice none 0 0)), .d (.v (.slice none 0 0)), .d (.v (.slice none 0 0)), .d (.v (.slice none 0 0)), .d (.v (.slice none 0 0))], [], (.new [])⟩,
   ⟨none, none, .store 5 (.t 3) (.t 14), [], (.new [])⟩])
 (.seq (.seq (.reg [⟨(some 4), none, .mv (kI 0), [], (.new [])⟩])
 (.sem (.block 0 (.loop (.seq (.seq (.reg [⟨(some 15), none, .mv (.t 4), [], (.new [])⟩,
   ⟨(some 16), none, .mv (.t 0), [], (.new [])⟩,
   ⟨(some 17), none, .len (.t 16), [], (.new [])⟩,
   ⟨(some 18), none, .bin .lss (.t 15) (.t 17), [], (.new [])⟩])
 (.cond (.t 18)
 .skip
 (.exit 0)))
 (.seq (.block 1 (.seq (.regd [⟨(some 22), none, .load (some 5) (.t 3), [], (.new [])⟩,
   ⟨(some 23), none, .mv (.t 0), [], (.new [])⟩,
   ⟨(some 24), none, .mv (.t 4), [], (.new [])⟩,
   ⟨(some 25), none, .indexA 5 (.t 23) (.t 24), [1, 2], (.new [])⟩,
   ⟨(some 26), none, .load (some 5) (.t 25), [1, 2, 3], (.new [])⟩,
   ⟨(some 27), none, .call 11 [(.t 22), (.t 26)], [0, 1, 2, 3, 4], (.new [0, 1, 2, 3, 4])⟩,
   ⟨(some 21), none, .mv (.t 27), [0, 1, 2, 3, 4, 5], (.new [])⟩,
   ⟨(some 28), none, .ext (.t 21) 0, [0, 1, 2, 3, 4, 5, 6], (.new [])⟩,
   ⟨(some 29), none, .ext (.t 21) 1, [0, 1, 2, 3, 4, 5, 6], (.new [])⟩,
   ⟨(some 30), none, .ext (.t 21) 2, [0, 1, 2, 3, 4, 5, 6], (.new [])⟩,
   ⟨(some 5), none, .zbox [.d (.v (.slice none 0 0)), .d (.v (.slice none 0 0)), .d (.v (.slice none 0 0)), .d (.v (.slice none 0 0)), .d (.v (.slice none 0 0))], [], (.new [])⟩,
   ⟨none, none, .store 5 (.t 5) (.t 28), [0, 1, 2, 3, 4, 5, 6, 7, 10], (.lone [])⟩,
   ⟨(some 6), none, .mv (.t 29), [0, 1, 2, 3, 4, 5, 6, 7, 8, 10, 11], (.new [])⟩,
   ⟨(some 7), none, .mv (.t 30), [0, 1, 2, 3, 4, 5, 6, 7, 8, 9, 10, 11, 12], (.new [])⟩])
 (.reg [⟨(some 31), none, .load (some 5) (.t 5), [], (.new [])⟩,
   ⟨none, none, .store 5 (.t 3) (.t 31), [], (.lone [5])⟩])))
 (.reg [⟨(some 19), none, .mv (.t 4), [], (.new [])⟩,
   ⟨(some 20), none, .bin .add (.t 19) (kI 1), [], (.new [])⟩,
   ⟨(some 4), none, .mv (.t 20), [], (.new [])⟩])))))))
 (.seq (.seq (.reg [⟨(some 8), none, .mv (kI 0), [], (.new [])⟩])
 (.sem (.block 2 (.loop (.seq (.seq (.reg [⟨(some 32), none, .mv (.t 8), [], (.new [])⟩,
   ⟨(some 33), none, .fieldA 0 (.t 3), [], (.new [])⟩,
   ⟨(some 34), none, .load none (.t 33), [], (.new [])⟩,
   ⟨(some 35), none, .len (.t 34), [], (.new [])⟩,
   ⟨(some 36), none, .bin .lss (.t 32) (.t 35), [], (.new [])⟩])
 (.cond (.t 36)
 .skip
 (.exit 2)))
 (.seq (.block 3 (.seq (.sem (.regd [⟨(some 39), none, .fieldA 0 (.t 3), [], (.new [])⟩,
   ⟨(some 40), none, .load none (.t 39), [0], (.new [])⟩,
   ⟨(some 41), none, .mv (.t 8), [], (.new [])⟩,
   ⟨(some 42), none, .slice 1 (.t 40) none (some (.t 41)) none, [0, 1, 2], (.new [])⟩,
   ⟨(some 43), none, .fieldA 0 (.t 3), [], (.new [])⟩,
   ⟨(some 44), none, .load none (.t 43), [4], (.new [])⟩,
   ⟨(some 45), none, .mv (.t 8), [], (.new [])⟩,
   ⟨(some 46), none, .indexA 1 (.t 44) (.t 45), [4, 5, 6], (.new [])⟩,
   ⟨(some 47), none, .load none (.t 46), [4, 5, 6, 7], (.new [])⟩,
   ⟨(some 48), none, .call 14 [(.t 42), (.t 47)], [0, 1, 2, 3, 4, 5, 6, 7, 8], (.lone [])⟩,
   ⟨(some 49), none, .mv (.t 48), [0, 1, 2, 3, 4, 5, 6, 7, 8, 9], (.new [])⟩,
   ⟨(some 50), (some (49, false)), .fieldA 1 (.t 3), [0, 1, 2, 3, 4, 5, 6, 7, 8, 9, 10], (.new [])⟩,
   ⟨(some 51), (some (49, false)), .load none (.t 50), [0, 1, 2, 3, 4, 5, 6, 7, 8, 9, 10, 11], (.new [])⟩,
   ⟨(some 52), (some (49, false)), .fieldA 0 (.t 3), [0, 1, 2, 3, 4, 5, 6, 7, 8, 9, 10], (.new [])⟩,
   ⟨(some 53), (some (49, false)), .load none (.t 52), [0, 1, 2, 3, 4, 5, 6, 7, 8, 9, 10, 13], (.new [])⟩,
   ⟨(some 54), (some (49, false)), .mv (.t 8), [0, 1, 2, 3, 4, 5, 6, 7, 8, 9, 10], (.new [])⟩,
   ⟨(some 55), (some (49, false)), .indexA 1 (.t 53) (.t 54), [0, 1, 2, 3, 4, 5, 6, 7, 8, 9, 10, 13, 14, 15], (.new [])⟩,
   ⟨(some 56), (some (49, false)), .load none (.t 55), [0, 1, 2, 3, 4, 5, 6, 7, 8, 9, 10, 13, 14, 15, 16], (.new [])⟩,
   ⟨(some 57), (some (49, false)), .call 14 [(.t 51), (.t 56)], [0, 1, 2, 3, 4, 5, 6, 7, 8, 9, 10, 11, 12, 13, 14, 15, 16, 17], (.lone [])⟩,
   ⟨(some 58), none, .pick (.t 49) (kB true) (.t 57), [0, 1, 2, 3, 4, 5, 6, 7, 8, 9, 10, 11, 12, 13, 14, 15, 16, 17, 18], (.lone [])⟩]))
 (.cond (.t 58)
 (.seq (.reg [⟨(some 2), none, .mv (kB false), [], (.new [])⟩])
 .ret)
 .skip)))
 (.reg [⟨(some 37), none, .mv (.t 8), [], (.new [])⟩,
   ⟨(some 38), none, .bin .add (.t 37) (kI 1), [], (.new [])⟩,
   ⟨(some 8), none, .mv (.t 38), [], (.new [])⟩])))))))
 (.seq (.seq (.reg [⟨(some 9), none, .mv (kI 0), [], (.new [])⟩])
 (.sem (.block 4 (.loop (.seq (.seq (.reg [⟨(some 59), none, .mv (.t 9), [], (.new [])⟩,
   ⟨(some 60), none, .fieldA 2 (.t 3), [], (.new [])⟩,
   ⟨(some 61), none, .load none (.t 60), [], (.new [])⟩,
   ⟨(some 62), none, .len (.t 61), [], (.new [])⟩,
   ⟨(some 63), none, .bin .lss (.t 59) (.t 62), [], (.new [])⟩])
 (.cond (.t 63)
 .skip
 (.exit 4)))
 (.seq (.block 5 (.seq (.sem (.regd [⟨(some 66), none, .fieldA 1 (.t 3), [], (.new [])⟩,
   ⟨(some 67), none, .load none (.t 66), [0], (.new [])⟩,
   ⟨(some 68), none, .fieldA 2 (.t 3), [], (.new [])⟩,
   ⟨(some 69), none, .load none (.t 68), [2], (.new [])⟩,
   ⟨(some 70), none, .mv (.t 9), [], (.new [])⟩,
   ⟨(some 71), none, .indexA 1 (.t 69) (.t 70), [2, 3, 4], (.new [])⟩,
   ⟨(some 72), none, .load none (.t 71), [2, 3, 4, 5], (.new [])⟩,
   ⟨(some 73), none, .call 14 [(.t 67), (.t 72)], [0, 1, 2, 3, 4, 5, 6], (.lone [])⟩,
   ⟨(some 74), none, .not (.t 73), [0, 1, 2, 3, 4, 5, 6, 7], (.new [])⟩,
   ⟨(some 75), none, .mv (.t 74), [0, 1, 2, 3, 4, 5, 6, 7, 8], (.new [])⟩,
   ⟨(some 76), (some (75, false)), .mv (.t 9), [0, 1, 2, 3, 4, 5, 6, 7, 8, 9], (.new [])⟩,
   ⟨(some 77), (some (75, false)), .bin .gtr (.t 76) (kI 0), [0, 1, 2, 3, 4, 5, 6, 7, 8, 9, 10], (.new [])⟩,
   ⟨(some 78), (some (75, false)), .mv (.t 77), [0, 1, 2, 3, 4, 5, 6, 7, 8, 9, 10, 11], (.new [])⟩,
   ⟨(some 79), (some (78, true)), .fieldA 2 (.t 3), [0, 1, 2, 3, 4, 5, 6, 7, 8, 9, 10, 11, 12], (.new [])⟩,
   ⟨(some 80), (some (78, true)), .load none (.t 79), [0, 1, 2, 3, 4, 5, 6, 7, 8, 9, 10, 11, 12, 13], (.new [])⟩,
   ⟨(some 81), (some (78, true)), .mv (.t 9), [0, 1, 2, 3, 4, 5, 6, 7, 8, 9, 10, 11, 12], (.new [])⟩,
   ⟨(some 82), (some (78, true)), .indexA 1 (.t 80) (.t 81), [0, 1, 2, 3, 4, 5, 6, 7, 8, 9, 10, 11, 12, 13, 14, 15], (.new [])⟩,
   ⟨(some 83), (some (78, true)), .load none (.t 82), [0, 1, 2, 3, 4, 5, 6, 7, 8, 9, 10, 11, 12, 13, 14, 15, 16], (.new [])⟩,
   ⟨(some 84), (some (78, true)), .fieldA 2 (.t 3), [0, 1, 2, 3, 4, 5, 6, 7, 8, 9, 10, 11, 12], (.new [])⟩,
   ⟨(some 85), (some (78, true)), .load none (.t 84), [0, 1, 2, 3, 4, 5, 6, 7, 8, 9, 10, 11, 12, 18], (.new [])⟩,
   ⟨(some 86), (some (78, true)), .mv (.t 9), [0, 1, 2, 3, 4, 5, 6, 7, 8, 9, 10, 11, 12], (.new [])⟩,
   ⟨(some 87), (some (78, true)), .bin .sub (.t 86) (kI 1), [0, 1, 2, 3, 4, 5, 6, 7, 8, 9, 10, 11, 12, 20], (.new [])⟩,
   ⟨(some 88), (some (78, true)), .indexA 1 (.t 85) (.t 87), [0, 1, 2, 3, 4, 5, 6, 7, 8, 9, 10, 11, 12, 18, 19, 20, 21], (.new [])⟩,
   ⟨(some 89), (some (78, true)), .load none (.t 88), [0, 1, 2, 3, 4, 5, 6, 7, 8, 9, 10, 11, 12, 18, 19, 20, 21, 22], (.new [])⟩,
   ⟨(some 90), (some (78, true)), .bin .leq (.t 83) (.t 89), [0, 1, 2, 3, 4, 5, 6, 7, 8, 9, 10, 11, 12, 13, 14, 15, 16, 17, 18, 19, 20, 21, 22, 23], (.new [])⟩,
   ⟨(some 91), (some (75, false)), .pick (.t 78) (.t 90) (kB false), [0, 1, 2, 3, 4, 5, 6, 7, 8, 9, 10, 11, 12, 13, 14, 15, 16, 17, 18, 19, 20, 21, 22, 23, 24], (.lone [])⟩,
   ⟨(some 92), none, .pick (.t 75) (kB true) (.t 91), [0, 1, 2, 3, 4, 5, 6, 7, 8, 9, 10, 11, 12, 13, 14, 15, 16, 17, 18, 19, 20, 21, 22, 23, 24, 25], (.lone [])⟩]))
 (.cond (.t 92)
 (.seq (.reg [⟨(some 2), none, .mv (kB false), [], (.new [])⟩])
 .ret)
 .skip)))
 (.reg [⟨(some 64), none, .mv (.t 9), [], (.new [])⟩,
   ⟨(some 65), none, .bin .add (.t 64) (kI 1), [], (.new [])⟩,
   ⟨(some 9), none, .mv (.t 65), [], (.new [])⟩])))))))
 (.seq (.seq (.reg [⟨(some 10), none, .mv (kI 1), [], (.new [])⟩])
 (.sem (.block 6 (.loop (.seq (.seq (.reg [⟨(some 93), none, .mv (.t 10), [], (.new [])⟩,
   ⟨(some 94), none, .fieldA 1 (.t 3), [], (.new [])⟩,
   ⟨(some 95), none, .load none (.t 94), [], (.new [])⟩,
   ⟨(some 96), none, .len (.t 95), [], (.new [])⟩,
   ⟨(some 97), none, .bin .lss (.t 93) (.t 96), [], (.new [])⟩])
 (.cond (.t 97)
 .skip
 (.exit 6)))
 (.seq (.block 7 (.seq (.regd [⟨(some 100), none, .fieldA 1 (.t 3), [], (.new [])⟩,
   ⟨(some 101), none, .load none (.t 100), [0], (.new [])⟩,
   ⟨(some 102), none, .mv (.t 10), [], (.new [])⟩,
   ⟨(some 103), none, .indexA 1 (.t 101) (.t 102), [0, 1, 2], (.new [])⟩,
   ⟨(some 104), none, .load none (.t 103), [0, 1, 2, 3], (.new [])⟩,
   ⟨(some 105), none, .fieldA 1 (.t 3), [], (.new [])⟩,
   ⟨(some 106), none, .load none (.t 105), [5], (.new [])⟩,
   ⟨(some 107), none, .mv (.t 10), [], (.new [])⟩,
   ⟨(some 108), none, .bin .sub (.t 107) (kI 1), [7], (.new [])⟩,
   ⟨(some 109), none, .indexA 1 (.t 106) (.t 108), [5, 6, 7, 8], (.new [])⟩,
   ⟨(some 110), none, .load none (.t 109), [5, 6, 7, 8, 9], (.new [])⟩,
   ⟨(some 111), none, .bin .leq (.t 104) (.t 110), [0, 1, 2, 3, 4, 5, 6, 7, 8, 9, 10], (.new [])⟩])
 (.cond (.t 111)
 (.seq (.reg [⟨(some 2), none, .mv (kB false), [], (.new [])⟩])
 .ret)
 .skip)))
 (.reg [⟨(some 98), none, .mv (.t 10), [], (.new [])⟩,
   ⟨(some 99), none, .bin .add (.t 98) (kI 1), [], (.new [])⟩,
   ⟨(some 10), none, .mv (.t 99), [], (.new [])⟩])))))))
 (.seq (.reg [⟨(some 112), none, .call 8 [], [], (.new [])⟩,
   ⟨(some 2), none, .mv (.t 112), [], (.new [])⟩])
 .ret))))))))⟩
theorem a4_ok : afn Try.prog 4 = some a4.er := by kernel_rfl
theorem F4_ok {x0 : (List Op)} {r : Bool} (h : F4 x0 = some r) : CallD Try.prog 4 [.c (.d (.sl (x0.map eOp)))] [] (tupV [.c (.d (.v (.bool r)))]) [] := by
  refine callS a4_ok (by simp [a4]) ?_
  rw [F4] at h
  simp only [a4, VW.down, Nat.reduceEqDiff, reduceCtorEq, Nat.reduceAdd, Nat.reduceLeDiff, Nat.reduceLT, Nat.reduceBEq, Nat.reduceSub, EE.down]
  obtain ⟨t1, ht1, h⟩ := Option.bind_eq_some_iff.1 h
  refine callX_n [] (F7_ok ht1) ?_ ?_ ?_ ?_ ?_ ?_
  · first | rfl | simp [nrmA, nrmC, nrm, A1.ren, C.ren, rn, List.length_set]
  · simp [liveAll, A1.live, C.live]
  · rfl
  · decide
  · exact trivial
  simp only [VW.down, Nat.reduceEqDiff, reduceCtorEq, Nat.reduceAdd, Nat.reduceLeDiff, Nat.reduceLT, Nat.reduceBEq, Nat.reduceSub, EE.down]
  refine condB (fun c2 => ?_) (fun c2 => ?_)
  · have h := (if_pos c2).symm.trans h
    simp only [VW.down, Nat.reduceEqDiff, reduceCtorEq, Nat.reduceAdd, Nat.reduceLeDiff, Nat.reduceLT, Nat.reduceBEq, Nat.reduceSub, EE.down]
    obtain ⟨t3, ht3, h⟩ := Option.bind_eq_some_iff.1 h
    refine callX_n [] (F8_ok ht3) ?_ ?_ ?_ ?_ ?_ ?_
    · first | rfl | simp [nrmA, nrmC, nrm, A1.ren, C.ren, rn, List.length_set]
    · simp [liveAll, A1.live, C.live]
    · rfl
    · decide
    · exact trivial
    simp only [VW.down, Nat.reduceEqDiff, reduceCtorEq, Nat.reduceAdd, Nat.reduceLeDiff, Nat.reduceLT, Nat.reduceBEq, Nat.reduceSub, EE.down]
    obtain rfl := Option.some.inj h
    exact eF []
  · have h := (if_neg c2).symm.trans h
    simp only [VW.down, Nat.reduceEqDiff, reduceCtorEq, Nat.reduceAdd, Nat.reduceLeDiff, Nat.reduceLT, Nat.reduceBEq, Nat.reduceSub, EE.down]
    obtain ⟨t4, ht4, h⟩ := Option.bind_eq_some_iff.1 h
    refine callX_n [] (F9_ok ht4) ?_ ?_ ?_ ?_ ?_ ?_
    · first | rfl | simp [nrmA, nrmC, nrm, A1.ren, C.ren, rn, List.length_set]
    · simp [liveAll, A1.live, C.live]
    · rfl
    · decide
    · exact trivial
    simp only [VW.down, Nat.reduceEqDiff, reduceCtorEq, Nat.reduceAdd, Nat.reduceLeDiff, Nat.reduceLT, Nat.reduceBEq, Nat.reduceSub, EE.down]
    obtain ⟨o5, ho, h⟩ := Option.bind_eq_some_iff.1 h
    refine cutS (fun s => s = ⟨[(3, .one (.c (.pt 0 0)))], [some (.box [.d (.sl (((o5).Ready).map eS)), .d (.sl (((o5).Working).map eS)), .d (.sl (((o5).Dirty).map eS)), .d (.sl (((o5).Later).map eWorkItem)), .d (.sl (((o5).Retries).map eWorkItem))])]⟩) ?_ ?_
    · have h := ho
      clear ho
      obtain ⟨_, hk, h⟩ := Option.bind_eq_some_iff.1 h
      have hk := ck_some hk
      simp only [VW.down, Nat.reduceEqDiff, reduceCtorEq, Nat.reduceAdd, Nat.reduceLeDiff, Nat.reduceLT, Nat.reduceBEq, Nat.reduceSub, EE.down]
      refine bL (fun j s => ∃ (o5_5 : Nat) (o5_0 : (List ByteArray)) (o5_1 : List ByteArray) (o5_2 : List ByteArray) (o5_3 : List WorkItem) (o5_4 : List WorkItem), (o5_5 ≤ x0.length ∧ j = x0.length - o5_5) ∧ s = ⟨[(0, .one (.c (.d (.sl (x0.map eOp))))), (3, .one (.c (.pt 0 0))), (4, .one (.c (.d (.v (.int .i64 ((o5_5 : Int)))))))], [some (.box [.d (.sl (o5_0.map eS)), .d (.sl (o5_1.map eS)), .d (.sl (o5_2.map eS)), .d (.sl (o5_3.map eWorkItem)), .d (.sl (o5_4.map eWorkItem))])]⟩ ∧ F4_l5 (x0.drop o5_5) o5_5 o5_0 o5_1 o5_2 o5_3 o5_4 = some o5) (x0.length - 0) [some 0] ⟨0, [], [], [], [], [], ⟨hk.1, rfl⟩, rfl, h⟩ ?_
      rintro _ _ ⟨o5_5, o5_0, o5_1, o5_2, o5_3, o5_4, ⟨hi, rfl⟩, rfl, h⟩
      simp only [VW.down, Nat.reduceEqDiff, reduceCtorEq, Nat.reduceAdd, Nat.reduceLeDiff, Nat.reduceLT, Nat.reduceBEq, Nat.reduceSub, EE.down]
      refine condS (fun c6 => ?_) (fun c6 => ?_)
      · obtain ⟨xo5, hxo5, hd⟩ := countY c6
        rw [hd, F4_l5] at h
        simp only [VW.down, Nat.reduceEqDiff, reduceCtorEq, Nat.reduceAdd, Nat.reduceLeDiff, Nat.reduceLT, Nat.reduceBEq, Nat.reduceSub, EE.down]
        refine t_idxF (enc := eOp) (xs := x0) rfl rfl hxo5 rfl ?_
        simp only [VW.down, Nat.reduceEqDiff, reduceCtorEq, Nat.reduceAdd, Nat.reduceLeDiff, Nat.reduceLT, Nat.reduceBEq, Nat.reduceSub, EE.down]
        obtain ⟨t7, ht7, h⟩ := Option.bind_eq_some_iff.1 h
        refine callX_n [] (F11_ok ht7) ?_ ?_ ?_ ?_ ?_ ?_
        · first | rfl | simp [nrmA, nrmC, nrm, A1.ren, C.ren, rn, List.length_set]
        · simp [liveAll, A1.live, C.live]
        · rfl
        · decide
        · exact trivial
        simp only [VW.down, Nat.reduceEqDiff, reduceCtorEq, Nat.reduceAdd, Nat.reduceLeDiff, Nat.reduceLT, Nat.reduceBEq, Nat.reduceSub, EE.down]
        refine kD_new (by simp [wrs, allW, hset]) ?_
        simp only [VW.down, Nat.reduceEqDiff, reduceCtorEq, Nat.reduceAdd, Nat.reduceLeDiff, Nat.reduceLT, Nat.reduceBEq, Nat.reduceSub, EE.down]
        refine kD_new (by simp [wrs, allW, hset]) ?_
        simp only [VW.down, Nat.reduceEqDiff, reduceCtorEq, Nat.reduceAdd, Nat.reduceLeDiff, Nat.reduceLT, Nat.reduceBEq, Nat.reduceSub, EE.down]
        rw [wrapN (by omega)]
        exact eL' (x0.length - (o5_5 + 1)) [some 0] ⟨o5_5 + 1, t7.1, t7.2.1, t7.2.2.1, t7.2.2.2.1, t7.2.2.2.2.1, ⟨by omega, rfl⟩, rfl, h⟩ (by omega)
      · rw [countN c6, F4_l5] at h
        simp only [VW.down, Nat.reduceEqDiff, reduceCtorEq, Nat.reduceAdd, Nat.reduceLeDiff, Nat.reduceLT, Nat.reduceBEq, Nat.reduceSub, EE.down]
        obtain rfl := Option.some.inj h
        exact eM [some 0] rfl
    · rintro _ rfl
      clear ho
      simp only [VW.down, Nat.reduceEqDiff, reduceCtorEq, Nat.reduceAdd, Nat.reduceLeDiff, Nat.reduceLT, Nat.reduceBEq, Nat.reduceSub, EE.down]
      obtain ⟨o9, ho, h⟩ := Option.bind_eq_some_iff.1 h
      refine cutS (fun s => ∃ po9, o9 = Sum.inr po9 ∧ s = ⟨[(3, .one (.c (.pt 0 0)))], [some (.box [.d (.sl (((o5).Ready).map eS)), .d (.sl (((o5).Working).map eS)), .d (.sl (((o5).Dirty).map eS)), .d (.sl (((o5).Later).map eWorkItem)), .d (.sl (((o5).Retries).map eWorkItem))])]⟩) ?_ ?_
      · have h0o9 := h
        have h := ho
        clear ho
        obtain ⟨_, hk, h⟩ := Option.bind_eq_some_iff.1 h
        have hk := ck_some hk
        simp only [VW.down, Nat.reduceEqDiff, reduceCtorEq, Nat.reduceAdd, Nat.reduceLeDiff, Nat.reduceLT, Nat.reduceBEq, Nat.reduceSub, EE.down]
        refine bL (fun j s => ∃ (o9_0 : Nat), (o9_0 ≤ (((o5).Ready)).length ∧ j = (((o5).Ready)).length - o9_0) ∧ s = ⟨[(3, .one (.c (.pt 0 0))), (8, .one (.c (.d (.v (.int .i64 ((o9_0 : Int)))))))], [some (.box [.d (.sl (((o5).Ready).map eS)), .d (.sl (((o5).Working).map eS)), .d (.sl (((o5).Dirty).map eS)), .d (.sl (((o5).Later).map eWorkItem)), .d (.sl (((o5).Retries).map eWorkItem))])]⟩ ∧ F4_l9 o5 ((((o5).Ready)).drop o9_0) o9_0 = some o9) ((((o5).Ready)).length - 0) [some 0] ⟨0, ⟨hk.1, rfl⟩, rfl, h⟩ ?_
        rintro _ _ ⟨o9_0, ⟨hi, rfl⟩, rfl, h⟩
        simp only [VW.down, Nat.reduceEqDiff, reduceCtorEq, Nat.reduceAdd, Nat.reduceLeDiff, Nat.reduceLT, Nat.reduceBEq, Nat.reduceSub, EE.down]
        refine condS (fun c10 => ?_) (fun c10 => ?_)
        · obtain ⟨xo9, hxo9, hd⟩ := countY c10
          rw [hd, F4_l9] at h
          simp only [VW.down, Nat.reduceEqDiff, reduceCtorEq, Nat.reduceAdd, Nat.reduceLeDiff, Nat.reduceLT, Nat.reduceBEq, Nat.reduceSub, EE.down]
          obtain ⟨o11, ho, h⟩ := Option.bind_eq_some_iff.1 h
          refine cutS (fun s => s = ⟨[(3, .one (.c (.pt 0 0))), (8, .one (.c (.d (.v (.int .i64 ((o9_0 : Int))))))), (58, .one (.c (.d (.v (.bool o11)))))], [some (.box [.d (.sl (((o5).Ready).map eS)), .d (.sl (((o5).Working).map eS)), .d (.sl (((o5).Dirty).map eS)), .d (.sl (((o5).Later).map eWorkItem)), .d (.sl (((o5).Retries).map eWorkItem))])]⟩) ?_ ?_
          · have h := ho
            clear ho
            simp only [VW.down, Nat.reduceEqDiff, reduceCtorEq, Nat.reduceAdd, Nat.reduceLeDiff, Nat.reduceLT, Nat.reduceBEq, Nat.reduceSub, EE.down]
            obtain ⟨s12, hs12, h⟩ := Option.bind_eq_some_iff.1 h
            refine t_slice (enc := eS) (xs := ((o5).Ready)) rfl rfl rfl (fun _ => rfl) hs12 ?_
            simp only [VW.down, Nat.reduceEqDiff, reduceCtorEq, Nat.reduceAdd, Nat.reduceLeDiff, Nat.reduceLT, Nat.reduceBEq, Nat.reduceSub, EE.down]
            obtain ⟨y13, hy13, h⟩ := Option.bind_eq_some_iff.1 h
            refine t_idxF (enc := eS) (xs := ((o5).Ready)) rfl rfl hy13 rfl ?_
            simp only [VW.down, Nat.reduceEqDiff, reduceCtorEq, Nat.reduceAdd, Nat.reduceLeDiff, Nat.reduceLT, Nat.reduceBEq, Nat.reduceSub, EE.down]
            obtain ⟨t14, ht14, h⟩ := Option.bind_eq_some_iff.1 h
            refine callX_n [] (F14_ok ht14) ?_ ?_ ?_ ?_ ?_ ?_
            · first | rfl | simp [nrmA, nrmC, nrm, A1.ren, C.ren, rn, List.length_set]
            · simp [liveAll, A1.live, C.live]
            · rfl
            · decide
            · exact trivial
            simp only [VW.down, Nat.reduceEqDiff, reduceCtorEq, Nat.reduceAdd, Nat.reduceLeDiff, Nat.reduceLT, Nat.reduceBEq, Nat.reduceSub, EE.down]
            refine guardDB (fun g15 => ?_) (fun g15 => ?_)
            · have h := (if_pos g15).symm.trans h
              simp only [VW.down, Nat.reduceEqDiff, reduceCtorEq, Nat.reduceAdd, Nat.reduceLeDiff, Nat.reduceLT, Nat.reduceBEq, Nat.reduceSub, EE.down]
              obtain rfl := Option.some.inj h
              exact eM [some 0] rfl
            · have h := (if_neg g15).symm.trans h
              simp only [VW.down, Nat.reduceEqDiff, reduceCtorEq, Nat.reduceAdd, Nat.reduceLeDiff, Nat.reduceLT, Nat.reduceBEq, Nat.reduceSub, EE.down]
              refine t_idxF (enc := eS) (xs := ((o5).Ready)) rfl rfl hy13 rfl ?_
              simp only [VW.down, Nat.reduceEqDiff, reduceCtorEq, Nat.reduceAdd, Nat.reduceLeDiff, Nat.reduceLT, Nat.reduceBEq, Nat.reduceSub, EE.down]
              obtain ⟨t16, ht16, h⟩ := Option.bind_eq_some_iff.1 h
              refine callX_n [] (F14_ok ht16) ?_ ?_ ?_ ?_ ?_ ?_
              · first | rfl | simp [nrmA, nrmC, nrm, A1.ren, C.ren, rn, List.length_set]
              · simp [liveAll, A1.live, C.live]
              · rfl
              · decide
              · exact trivial
              simp only [VW.down, Nat.reduceEqDiff, reduceCtorEq, Nat.reduceAdd, Nat.reduceLeDiff, Nat.reduceLT, Nat.reduceBEq, Nat.reduceSub, EE.down]
              obtain rfl := Option.some.inj h
              exact eM [some 0] rfl
          · rintro _ rfl
            clear ho
            simp only [VW.down, Nat.reduceEqDiff, reduceCtorEq, Nat.reduceAdd, Nat.reduceLeDiff, Nat.reduceLT, Nat.reduceBEq, Nat.reduceSub, EE.down]
            refine condB (fun c17 => ?_) (fun c17 => ?_)
            · have h := (if_pos c17).symm.trans h
              simp only [VW.down, Nat.reduceEqDiff, reduceCtorEq, Nat.reduceAdd, Nat.reduceLeDiff, Nat.reduceLT, Nat.reduceBEq, Nat.reduceSub, EE.down]
              obtain ⟨fh0o9, hfh0o9, rfl⟩ := Option.map_eq_some_iff.1 h
              have h := hfh0o9.trans h0o9
              obtain rfl := Option.some.inj h
              exact eF []
            · have h := (if_neg c17).symm.trans h
              simp only [VW.down, Nat.reduceEqDiff, reduceCtorEq, Nat.reduceAdd, Nat.reduceLeDiff, Nat.reduceLT, Nat.reduceBEq, Nat.reduceSub, EE.down]
              rw [wrapN (by omega)]
              exact eL' ((((o5).Ready)).length - (o9_0 + 1)) [some 0] ⟨o9_0 + 1, ⟨by omega, rfl⟩, rfl, h⟩ (by omega)
        · rw [countN c10, F4_l9] at h
          simp only [VW.down, Nat.reduceEqDiff, reduceCtorEq, Nat.reduceAdd, Nat.reduceLeDiff, Nat.reduceLT, Nat.reduceBEq, Nat.reduceSub, EE.down]
          obtain rfl := Option.some.inj h
          exact eM [some 0] ⟨_, rfl, rfl⟩
      · rintro _ ⟨po9, rfl, rfl⟩
        clear ho
        dsimp only at h
        simp only [VW.down, Nat.reduceEqDiff, reduceCtorEq, Nat.reduceAdd, Nat.reduceLeDiff, Nat.reduceLT, Nat.reduceBEq, Nat.reduceSub, EE.down]
        obtain ⟨o19, ho, h⟩ := Option.bind_eq_some_iff.1 h
        refine cutS (fun s => ∃ po19, o19 = Sum.inr po19 ∧ s = ⟨[(3, .one (.c (.pt 0 0)))], [some (.box [.d (.sl (((o5).Ready).map eS)), .d (.sl (((o5).Working).map eS)), .d (.sl (((o5).Dirty).map eS)), .d (.sl (((o5).Later).map eWorkItem)), .d (.sl (((o5).Retries).map eWorkItem))])]⟩) ?_ ?_
        · have h0o19 := h
          have h := ho
          clear ho
          obtain ⟨_, hk, h⟩ := Option.bind_eq_some_iff.1 h
          have hk := ck_some hk
          simp only [VW.down, Nat.reduceEqDiff, reduceCtorEq, Nat.reduceAdd, Nat.reduceLeDiff, Nat.reduceLT, Nat.reduceBEq, Nat.reduceSub, EE.down]
          refine bL (fun j s => ∃ (o19_0 : Nat), (o19_0 ≤ (((o5).Dirty)).length ∧ j = (((o5).Dirty)).length - o19_0) ∧ s = ⟨[(3, .one (.c (.pt 0 0))), (9, .one (.c (.d (.v (.int .i64 ((o19_0 : Int)))))))], [some (.box [.d (.sl (((o5).Ready).map eS)), .d (.sl (((o5).Working).map eS)), .d (.sl (((o5).Dirty).map eS)), .d (.sl (((o5).Later).map eWorkItem)), .d (.sl (((o5).Retries).map eWorkItem))])]⟩ ∧ F4_l19 o5 ((((o5).Dirty)).drop o19_0) o19_0 = some o19) ((((o5).Dirty)).length - 0) [some 0] ⟨0, ⟨hk.1, rfl⟩, rfl, h⟩ ?_
          rintro _ _ ⟨o19_0, ⟨hi, rfl⟩, rfl, h⟩
          simp only [VW.down, Nat.reduceEqDiff, reduceCtorEq, Nat.reduceAdd, Nat.reduceLeDiff, Nat.reduceLT, Nat.reduceBEq, Nat.reduceSub, EE.down]
          refine condS (fun c20 => ?_) (fun c20 => ?_)
          · obtain ⟨xo19, hxo19, hd⟩ := countY c20
            rw [hd, F4_l19] at h
            simp only [VW.down, Nat.reduceEqDiff, reduceCtorEq, Nat.reduceAdd, Nat.reduceLeDiff, Nat.reduceLT, Nat.reduceBEq, Nat.reduceSub, EE.down]
            obtain ⟨o21, ho, h⟩ := Option.bind_eq_some_iff.1 h
            refine cutS (fun s => s = ⟨[(3, .one (.c (.pt 0 0))), (9, .one (.c (.d (.v (.int .i64 ((o19_0 : Int))))))), (92, .one (.c (.d (.v (.bool o21)))))], [some (.box [.d (.sl (((o5).Ready).map eS)), .d (.sl (((o5).Working).map eS)), .d (.sl (((o5).Dirty).map eS)), .d (.sl (((o5).Later).map eWorkItem)), .d (.sl (((o5).Retries).map eWorkItem))])]⟩) ?_ ?_
            · have h := ho
              clear ho
              simp only [VW.down, Nat.reduceEqDiff, reduceCtorEq, Nat.reduceAdd, Nat.reduceLeDiff, Nat.reduceLT, Nat.reduceBEq, Nat.reduceSub, EE.down]
              obtain ⟨y22, hy22, h⟩ := Option.bind_eq_some_iff.1 h
              refine t_idxF (enc := eS) (xs := ((o5).Dirty)) rfl rfl hy22 rfl ?_
              simp only [VW.down, Nat.reduceEqDiff, reduceCtorEq, Nat.reduceAdd, Nat.reduceLeDiff, Nat.reduceLT, Nat.reduceBEq, Nat.reduceSub, EE.down]
              obtain ⟨t23, ht23, h⟩ := Option.bind_eq_some_iff.1 h
              refine callX_n [] (F14_ok ht23) ?_ ?_ ?_ ?_ ?_ ?_
              · first | rfl | simp [nrmA, nrmC, nrm, A1.ren, C.ren, rn, List.length_set]
              · simp [liveAll, A1.live, C.live]
              · rfl
              · decide
              · exact trivial
              simp only [VW.down, Nat.reduceEqDiff, reduceCtorEq, Nat.reduceAdd, Nat.reduceLeDiff, Nat.reduceLT, Nat.reduceBEq, Nat.reduceSub, EE.down]
              refine guardDB (fun g24 => ?_) (fun g24 => ?_)
              · have h := (if_pos g24).symm.trans h
                simp only [VW.down, Nat.reduceEqDiff, reduceCtorEq, Nat.reduceAdd, Nat.reduceLeDiff, Nat.reduceLT, Nat.reduceBEq, Nat.reduceSub, EE.down]
                obtain rfl := Option.some.inj h
                exact eM [some 0] rfl
              · have h := (if_neg g24).symm.trans h
                simp only [VW.down, Nat.reduceEqDiff, reduceCtorEq, Nat.reduceAdd, Nat.reduceLeDiff, Nat.reduceLT, Nat.reduceBEq, Nat.reduceSub, EE.down]
                refine guardD (fun g25 => ?_) (fun g25 => ?_)
                · have h := (if_pos g25).symm.trans h
                  simp only [VW.down, Nat.reduceEqDiff, reduceCtorEq, Nat.reduceAdd, Nat.reduceLeDiff, Nat.reduceLT, Nat.reduceBEq, Nat.reduceSub, EE.down]
                  refine t_idxF (enc := eS) (xs := ((o5).Dirty)) rfl rfl hy22 rfl ?_
                  simp only [VW.down, Nat.reduceEqDiff, reduceCtorEq, Nat.reduceAdd, Nat.reduceLeDiff, Nat.reduceLT, Nat.reduceBEq, Nat.reduceSub, EE.down]
                  obtain ⟨y26, hy26, h⟩ := Option.bind_eq_some_iff.1 h
                  refine t_idxF (enc := eS) (xs := ((o5).Dirty)) rfl rfl hy26 rfl ?_
                  simp only [VW.down, Nat.reduceEqDiff, reduceCtorEq, Nat.reduceAdd, Nat.reduceLeDiff, Nat.reduceLT, Nat.reduceBEq, Nat.reduceSub, EE.down]
                  obtain rfl := Option.some.inj h
                  exact eM [some 0] rfl
                · have h := (if_neg g25).symm.trans h
                  simp only [VW.down, Nat.reduceEqDiff, reduceCtorEq, Nat.reduceAdd, Nat.reduceLeDiff, Nat.reduceLT, Nat.reduceBEq, Nat.reduceSub, EE.down]
                  obtain rfl := Option.some.inj h
                  exact eM [some 0] rfl
            · rintro _ rfl
              clear ho
              simp only [VW.down, Nat.reduceEqDiff, reduceCtorEq, Nat.reduceAdd, Nat.reduceLeDiff, Nat.reduceLT, Nat.reduceBEq, Nat.reduceSub, EE.down]
              refine condB (fun c27 => ?_) (fun c27 => ?_)
              · have h := (if_pos c27).symm.trans h
                simp only [VW.down, Nat.reduceEqDiff, reduceCtorEq, Nat.reduceAdd, Nat.reduceLeDiff, Nat.reduceLT, Nat.reduceBEq, Nat.reduceSub, EE.down]
                obtain ⟨fh0o19, hfh0o19, rfl⟩ := Option.map_eq_some_iff.1 h
                have h := hfh0o19.trans h0o19
                obtain rfl := Option.some.inj h
                exact eF []
              · have h := (if_neg c27).symm.trans h
                simp only [VW.down, Nat.reduceEqDiff, reduceCtorEq, Nat.reduceAdd, Nat.reduceLeDiff, Nat.reduceLT, Nat.reduceBEq, Nat.reduceSub, EE.down]
                rw [wrapN (by omega)]
                exact eL' ((((o5).Dirty)).length - (o19_0 + 1)) [some 0] ⟨o19_0 + 1, ⟨by omega, rfl⟩, rfl, h⟩ (by omega)
          · rw [countN c20, F4_l19] at h
            simp only [VW.down, Nat.reduceEqDiff, reduceCtorEq, Nat.reduceAdd, Nat.reduceLeDiff, Nat.reduceLT, Nat.reduceBEq, Nat.reduceSub, EE.down]
            obtain rfl := Option.some.inj h
            exact eM [some 0] ⟨_, rfl, rfl⟩
        · rintro _ ⟨po19, rfl, rfl⟩
          clear ho
          dsimp only at h
          simp only [VW.down, Nat.reduceEqDiff, reduceCtorEq, Nat.reduceAdd, Nat.reduceLeDiff, Nat.reduceLT, Nat.reduceBEq, Nat.reduceSub, EE.down]
          obtain ⟨o29, ho, h⟩ := Option.bind_eq_some_iff.1 h
          refine cutS (fun s => ∃ po29, o29 = Sum.inr po29 ∧ s = ⟨[], []⟩) ?_ ?_
          · have h0o29 := h
            have h := ho
            clear ho
            simp only [VW.down, Nat.reduceEqDiff, reduceCtorEq, Nat.reduceAdd, Nat.reduceLeDiff, Nat.reduceLT, Nat.reduceBEq, Nat.reduceSub, EE.down]
            refine bL (fun j s => ∃ (o29_0 : Int), s = ⟨[(3, .one (.c (.pt 0 0))), (10, .one (.c (.d (.v (.int .i64 o29_0)))))], [some (.box [.d (.sl (((o5).Ready).map eS)), .d (.sl (((o5).Working).map eS)), .d (.sl (((o5).Dirty).map eS)), .d (.sl (((o5).Later).map eWorkItem)), .d (.sl (((o5).Retries).map eWorkItem))])]⟩ ∧ F4_l29 o5 j o29_0 = some o29) 1099511627776 [some 0] ⟨1, rfl, h⟩ ?_
            rintro j _ ⟨o29_0, rfl, h⟩
            cases j with
            | zero => cases (show (none : Option _) = some _ from h)
            | succ j =>
              rw [F4_l29] at h
              simp only [VW.down, Nat.reduceEqDiff, reduceCtorEq, Nat.reduceAdd, Nat.reduceLeDiff, Nat.reduceLT, Nat.reduceBEq, Nat.reduceSub, EE.down]
              refine condS (fun c30 => ?_) (fun c30 => ?_)
              · have h := (if_pos c30).symm.trans h
                simp only [VW.down, Nat.reduceEqDiff, reduceCtorEq, Nat.reduceAdd, Nat.reduceLeDiff, Nat.reduceLT, Nat.reduceBEq, Nat.reduceSub, EE.down]
                obtain ⟨y31, hy31, h⟩ := Option.bind_eq_some_iff.1 h
                refine t_idxF (enc := eS) (xs := ((o5).Working)) rfl rfl hy31 rfl ?_
                simp only [VW.down, Nat.reduceEqDiff, reduceCtorEq, Nat.reduceAdd, Nat.reduceLeDiff, Nat.reduceLT, Nat.reduceBEq, Nat.reduceSub, EE.down]
                obtain ⟨y32, hy32, h⟩ := Option.bind_eq_some_iff.1 h
                refine t_idxF (enc := eS) (xs := ((o5).Working)) rfl rfl hy32 rfl ?_
                simp only [VW.down, Nat.reduceEqDiff, reduceCtorEq, Nat.reduceAdd, Nat.reduceLeDiff, Nat.reduceLT, Nat.reduceBEq, Nat.reduceSub, EE.down]
                refine condB (fun c33 => ?_) (fun c33 => ?_)
                · have h := (if_pos c33).symm.trans h
                  simp only [VW.down, Nat.reduceEqDiff, reduceCtorEq, Nat.reduceAdd, Nat.reduceLeDiff, Nat.reduceLT, Nat.reduceBEq, Nat.reduceSub, EE.down]
                  obtain ⟨fh0o29, hfh0o29, rfl⟩ := Option.map_eq_some_iff.1 h
                  have h := hfh0o29.trans h0o29
                  obtain rfl := Option.some.inj h
                  exact eF []
                · have h := (if_neg c33).symm.trans h
                  simp only [VW.down, Nat.reduceEqDiff, reduceCtorEq, Nat.reduceAdd, Nat.reduceLeDiff, Nat.reduceLT, Nat.reduceBEq, Nat.reduceSub, EE.down]
                  exact eL' j [some 0] ⟨(IntKind.i64.wrap (o29_0 + 1)), rfl, h⟩ (Nat.lt_succ_self _)
              · have h := (if_neg c30).symm.trans h
                simp only [VW.down, Nat.reduceEqDiff, reduceCtorEq, Nat.reduceAdd, Nat.reduceLeDiff, Nat.reduceLT, Nat.reduceBEq, Nat.reduceSub, EE.down]
                obtain rfl := Option.some.inj h
                exact eM [] ⟨_, rfl, rfl⟩
          · rintro _ ⟨po29, rfl, rfl⟩
            clear ho
            dsimp only at h
            simp only [VW.down, Nat.reduceEqDiff, reduceCtorEq, Nat.reduceAdd, Nat.reduceLeDiff, Nat.reduceLT, Nat.reduceBEq, Nat.reduceSub, EE.down]
            obtain ⟨t34, ht34, h⟩ := Option.bind_eq_some_iff.1 h
            refine callX_n [] (F8_ok ht34) ?_ ?_ ?_ ?_ ?_ ?_
            · first | rfl | simp [nrmA, nrmC, nrm, A1.ren, C.ren, rn, List.length_set]
            · simp [liveAll, A1.live, C.live]
            · rfl
            · decide
            · exact trivial
            simp only [VW.down, Nat.reduceEqDiff, reduceCtorEq, Nat.reduceAdd, Nat.reduceLeDiff, Nat.reduceLT, Nat.reduceBEq, Nat.reduceSub, EE.down]
            obtain rfl := Option.some.inj h
            exact eF []

/- orchestrator/orchestratorlaw31.WorkqueueNoLoss -/
def F5_l7  : List Op → Nat → ((List ByteArray)) → (List ByteArray) → (List ByteArray) → (List WorkItem) → (List WorkItem) → Option (WorkQueue)
  | [], o7_5, o7_0, o7_1, o7_2, o7_3, o7_4 => some ((⟨o7_0, o7_1, o7_2, o7_3, o7_4⟩ : WorkQueue))
  | xo7 :: xs, o7_5, o7_0, o7_1, o7_2, o7_3, o7_4 => (F11 ((⟨o7_0, o7_1, o7_2, o7_3, o7_4⟩ : WorkQueue)) xo7).bind fun t9 => F5_l7  xs (o7_5 + 1) t9.1 t9.2.1 t9.2.2.1 t9.2.2.2.1 t9.2.2.2.2.1
def F5_l18 (a17 : List ByteArray) : List ByteArray → Nat → (List ByteArray) → (List ByteArray) → (List ByteArray) → (List WorkItem) → (List WorkItem) → Option ((List ByteArray) × (List ByteArray) × (List ByteArray) × (List WorkItem) × (List WorkItem))
  | [], o18_5, o18_0, o18_1, o18_2, o18_3, o18_4 => some ((o18_0, o18_1, o18_2, o18_3, o18_4))
  | xo18 :: xs, o18_5, o18_0, o18_1, o18_2, o18_3, o18_4 => (rdI a17 ((o18_5 : Int))).bind fun y20 => (F16 ((⟨o18_0, o18_1, o18_2, o18_3, o18_4⟩ : WorkQueue)) y20).bind fun t21 => F5_l18 a17 xs (o18_5 + 1) t21.1 t21.2.1 t21.2.2.1 t21.2.2.2.1 t21.2.2.2.2
def F5_l23 (x1 : ByteArray) : Nat → (List ByteArray) → (List ByteArray) → (List ByteArray) → (List WorkItem) → (List WorkItem) → Int → Option ((Bool) ⊕ (Unit))
  | 0, _, _, _, _, _, _ => none
  | k + 1, o23_0, o23_1, o23_2, o23_3, o23_4, o23_5 => (if o23_5 < 130 then (F17 ((⟨o23_0, o23_1, o23_2, o23_3, o23_4⟩ : WorkQueue))).bind fun t25 => (if (nb t25.2.2.2.2.2.2) = true then (some false).map Sum.inl else (if t25.2.2.2.2.2.1 = x1 then (F8).bind fun t28 => (some t28).map Sum.inl else (F16 ((⟨t25.1, t25.2.1, t25.2.2.1, t25.2.2.2.1, t25.2.2.2.2.1⟩ : WorkQueue)) t25.2.2.2.2.2.1).bind fun t29 => F5_l23 x1 k t29.1 t29.2.1 t29.2.2.1 t29.2.2.2.1 t29.2.2.2.2 ((IntKind.i64.wrap (o23_5 + 1))))) else some (Sum.inr (())))
def F5 (x0 : (List Op)) (x1 : ByteArray) : Option (Bool) := (((F7 x0).bind fun t2 => (if t2 = true then some true else some (decide (100 < (x1.size : Int))))).bind fun o1 => (if o1 = true then (F8).bind fun t5 => some t5 else (F9).bind fun t6 => (((ck (0 ≤ x0.length ∧ x0.length ≤ 4294967290)).bind fun u10 => F5_l7 x0 0 ([]) ([]) ([]) ([]) ([])).bind fun o7 => (F15 ((⟨(o7).Ready, (o7).Working, (o7).Dirty, (o7).Later, (o7).Retries⟩ : WorkQueue)) x1).bind fun t11 => (((F14 t11.1 x1).bind fun t13 => (if (nb t13) = true then (F14 t11.2.2.1 x1).bind fun t15 => some (nb t15) else some false)).bind fun o12 => (if o12 = true then some false else (apI ([] : List ByteArray) t11.2.1).bind fun a17 => (((ck (0 ≤ a17.length ∧ a17.length ≤ 4294967290)).bind fun u22 => F5_l18 a17 a17 0 t11.1 t11.2.1 t11.2.2.1 t11.2.2.2.1 t11.2.2.2.2).bind fun o18 => ((F5_l23 x1 1099511627776 o18.1 o18.2.1 o18.2.2.1 o18.2.2.2.1 o18.2.2.2.2 0).bind fun o23 => match o23 with | Sum.inl f => some f | Sum.inr po23 => some false)))))))
def a5 : AFn := ⟨92, [(.tmp 4)],
 (.seq (.reg [⟨(some 4), none, .mv (kB false), [], (.new [])⟩])
 (.seq (.seq (.sem (.reg [⟨(some 16), none, .mv (.t 0), [], (.new [])⟩,
   ⟨(some 17), none, .call 7 [(.t 16)], [], (.new [])⟩,
   ⟨(some 18), none, .mv (.t 17), [], (.new [])⟩,
   ⟨(some 19), (some (18, false)), .mv (.t 1), [], (.new [])⟩,
   ⟨(some 20), (some (18, false)), .slen (.t 19), [], (.new [])⟩,
   ⟨(some 21), (some (18, false)), .bin .gtr (.t 20) (kI 100), [], (.new [])⟩,
   ⟨(some 22), none, .pick (.t 18) (kB true) (.t 21), [], (.new [])⟩]))
 (.cond (.t 22)
 (.seq (.reg [⟨(some 23), none, .call 8 [], [], (.new [])⟩,
   ⟨(some 4), none, .mv (.t 23), [], (.new [])⟩])
 .ret)
 .skip))
 (.seq (.reg [⟨(some 24), none, .call 9 [], [], (.new [])⟩,
   ⟨(some 5), none, .zbox [.d (.v (.slice none 0 0)), .d (.v (.slice none 0 0)), .d (.v (.slice none 0 0)), .d (.v (.slice none 0 0)), .d (.v (.slice none 0 0))], [], (.new [])⟩,
   ⟨none, none, .store 5 (.t 5) (.t 24), [], (.new [])⟩])
 (.seq (.seq (.reg [⟨(some 6), none, .mv (kI 0), [], (.new [])⟩])
 (.sem (.block 0 (.loop (.seq (.seq (.reg [⟨(some 25), none, .mv (.t 6), [], (.new [])⟩,
   ⟨(some 26), none, .mv (.t 0), [], (.new [])⟩,
   ⟨(some 27), none, .len (.t 26), [], (.new [])⟩,
   ⟨(some 28), none, .bin .lss (.t 25) (.t 27), [], (.new [])⟩])
 (.cond (.t 28)
 .skip
 (.exit 0)))
 (.seq (.block 1 (.seq (.regd [⟨(some 32), none, .load (some 5) (.t 5), [], (.new [])⟩,
   ⟨(some 33), none, .mv (.t 0), [], (.new [])⟩,
   ⟨(some 34), none, .mv (.t 6), [], (.new [])⟩,
   ⟨(some 35), none, .indexA 5 (.t 33) (.t 34), [1, 2], (.new [])⟩,
   ⟨(some 36), none, .load (some 5) (.t 35), [1, 2, 3], (.new [])⟩,
   ⟨(some 37), none, .call 11 [(.t 32), (.t 36)], [0, 1, 2, 3, 4], (.new [0, 1, 2, 3, 4])⟩,
   ⟨(some 31), none, .mv (.t 37), [0, 1, 2, 3, 4, 5], (.new [])⟩,
   ⟨(some 38), none, .ext (.t 31) 0, [0, 1, 2, 3, 4, 5, 6], (.new [])⟩,
   ⟨(some 39), none, .ext (.t 31) 1, [0, 1, 2, 3, 4, 5, 6], (.new [])⟩,
   ⟨(some 40), none, .ext (.t 31) 2, [0, 1, 2, 3, 4, 5, 6], (.new [])⟩,
   ⟨(some 7), none, .zbox [.d (.v (.slice none 0 0)), .d (.v (.slice none 0 0)), .d (.v (.slice none 0 0)), .d (.v (.slice none 0 0)), .d (.v (.slice none 0 0))], [], (.new [])⟩,
   ⟨none, none, .store 5 (.t 7) (.t 38), [0, 1, 2, 3, 4, 5, 6, 7, 10], (.lone [])⟩,
   ⟨(some 8), none, .mv (.t 39), [0, 1, 2, 3, 4, 5, 6, 7, 8, 10, 11], (.new [])⟩,
   ⟨(some 9), none, .mv (.t 40), [0, 1, 2, 3, 4, 5, 6, 7, 8, 9, 10, 11, 12], (.new [])⟩])
 (.reg [⟨(some 41), none, .load (some 5) (.t 7), [], (.new [])⟩,
   ⟨none, none, .store 5 (.t 5) (.t 41), [], (.lone [7])⟩])))
 (.reg [⟨(some 29), none, .mv (.t 6), [], (.new [])⟩,
   ⟨(some 30), none, .bin .add (.t 29) (kI 1), [], (.new [])⟩,
   ⟨(some 6), none, .mv (.t 30), [], (.new [])⟩])))))))
 (.seq (.reg [⟨(some 42), none, .load (some 5) (.t 5), [], (.new [])⟩,
   ⟨(some 43), none, .mv (.t 1), [], (.new [])⟩,
   ⟨(some 44), none, .call 15 [(.t 42), (.t 43)], [], (.new [])⟩,
   ⟨none, none, .store 5 (.t 5) (.t 44), [], (.new [])⟩])
 (.seq (.seq (.sem (.reg [⟨(some 45), none, .fieldA 0 (.t 5), [], (.new [])⟩,
   ⟨(some 46), none, .load none (.t 45), [], (.new [])⟩,
   ⟨(some 47), none, .mv (.t 1), [], (.new [])⟩,
   ⟨(some 48), none, .call 14 [(.t 46), (.t 47)], [], (.new [])⟩,
   ⟨(some 49), none, .not (.t 48), [], (.new [])⟩,
   ⟨(some 50), none, .mv (.t 49), [], (.new [])⟩,
   ⟨(some 51), (some (50, true)), .fieldA 2 (.t 5), [], (.new [])⟩,
   ⟨(some 52), (some (50, true)), .load none (.t 51), [], (.new [])⟩,
   ⟨(some 53), (some (50, true)), .mv (.t 1), [], (.new [])⟩,
   ⟨(some 54), (some (50, true)), .call 14 [(.t 52), (.t 53)], [], (.new [])⟩,
   ⟨(some 55), (some (50, true)), .not (.t 54), [], (.new [])⟩,
   ⟨(some 56), none, .pick (.t 50) (.t 55) (kB false), [], (.new [])⟩]))
 (.cond (.t 56)
 (.seq (.reg [⟨(some 4), none, .mv (kB false), [], (.new [])⟩])
 .ret)
 .skip))
 (.seq (.reg [⟨(some 57), none, .bslice 1 [], [], (.new [])⟩,
   ⟨(some 58), none, .fieldA 1 (.t 5), [], (.new [])⟩,
   ⟨(some 59), none, .load none (.t 58), [], (.new [])⟩,
   ⟨(some 60), none, .app 1 16 (.t 57) (.t 59), [], (.new [])⟩,
   ⟨(some 10), none, .mv (.t 60), [], (.new [])⟩])
 (.seq (.seq (.reg [⟨(some 11), none, .mv (kI 0), [], (.new [])⟩])
 (.sem (.block 2 (.loop (.seq (.seq (.reg [⟨(some 61), none, .mv (.t 11), [], (.new [])⟩,
   ⟨(some 62), none, .mv (.t 10), [], (.new [])⟩,
   ⟨(some 63), none, .len (.t 62), [], (.new [])⟩,
   ⟨(some 64), none, .bin .lss (.t 61) (.t 63), [], (.new [])⟩])
 (.cond (.t 64)
 .skip
 (.exit 2)))
 (.seq (.block 3 (.regd [⟨(some 67), none, .load (some 5) (.t 5), [], (.new [])⟩,
   ⟨(some 68), none, .mv (.t 10), [], (.new [])⟩,
   ⟨(some 69), none, .mv (.t 11), [], (.new [])⟩,
   ⟨(some 70), none, .indexA 1 (.t 68) (.t 69), [1, 2], (.new [])⟩,
   ⟨(some 71), none, .load none (.t 70), [1, 2, 3], (.new [])⟩,
   ⟨(some 72), none, .call 16 [(.t 67), (.t 71)], [0, 1, 2, 3, 4], (.lone [])⟩,
   ⟨none, none, .store 5 (.t 5) (.t 72), [0, 1, 2, 3, 4, 5], (.lone [])⟩]))
 (.reg [⟨(some 65), none, .mv (.t 11), [], (.new [])⟩,
   ⟨(some 66), none, .bin .add (.t 65) (kI 1), [], (.new [])⟩,
   ⟨(some 11), none, .mv (.t 66), [], (.new [])⟩])))))))
 (.seq (.seq (.reg [⟨(some 12), none, .mv (kI 0), [], (.new [])⟩])
 (.sem (.block 4 (.loop (.seq (.seq (.reg [⟨(some 73), none, .mv (.t 12), [], (.new [])⟩,
   ⟨(some 74), none, .bin .lss (.t 73) (kI 130), [], (.new [])⟩])
 (.cond (.t 74)
 .skip
 (.exit 4)))
 (.seq (.block 5 (.seq (.reg [⟨(some 78), none, .load (some 5) (.t 5), [], (.new [])⟩,
   ⟨(some 79), none, .call 17 [(.t 78)], [], (.new [])⟩,
   ⟨(some 77), none, .mv (.t 79), [], (.new [])⟩,
   ⟨(some 80), none, .ext (.t 77) 0, [], (.new [])⟩,
   ⟨(some 81), none, .ext (.t 77) 1, [], (.new [])⟩,
   ⟨(some 82), none, .ext (.t 77) 2, [], (.new [])⟩,
   ⟨(some 13), none, .zbox [.d (.v (.slice none 0 0)), .d (.v (.slice none 0 0)), .d (.v (.slice none 0 0)), .d (.v (.slice none 0 0)), .d (.v (.slice none 0 0))], [], (.new [])⟩,
   ⟨none, none, .store 5 (.t 13) (.t 80), [], (.new [])⟩,
   ⟨(some 14), none, .mv (.t 81), [], (.new [])⟩,
   ⟨(some 15), none, .mv (.t 82), [], (.new [])⟩])
 (.seq (.seq (.reg [⟨(some 83), none, .mv (.t 15), [], (.new [])⟩,
   ⟨(some 84), none, .not (.t 83), [], (.new [])⟩])
 (.cond (.t 84)
 (.seq (.reg [⟨(some 4), none, .mv (kB false), [], (.new [])⟩])
 .ret)
 .skip))
 (.seq (.seq (.reg [⟨(some 85), none, .mv (.t 14), [], (.new [])⟩,
   ⟨(some 86), none, .mv (.t 1), [], (.new [])⟩,
   ⟨(some 87), none, .bin .eql (.t 85) (.t 86), [], (.new [])⟩])
 (.cond (.t 87)
 (.seq (.reg [⟨(some 88), none, .call 8 [], [], (.new [])⟩,
   ⟨(some 4), none, .mv (.t 88), [], (.new [])⟩])
 .ret)
 .skip))
 (.reg [⟨(some 89), none, .load (some 5) (.t 13), [], (.new [])⟩,
   ⟨(some 90), none, .mv (.t 14), [], (.new [])⟩,
   ⟨(some 91), none, .call 16 [(.t 89), (.t 90)], [], (.new [])⟩,
   ⟨none, none, .store 5 (.t 5) (.t 91), [], (.new [])⟩])))))
 (.reg [⟨(some 75), none, .mv (.t 12), [], (.new [])⟩,
   ⟨(some 76), none, .bin .add (.t 75) (kI 1), [], (.new [])⟩,
   ⟨(some 12), none, .mv (.t 76), [], (.new [])⟩])))))))
 (.seq (.reg [⟨(some 4), none, .mv (kB false), [], (.new [])⟩])
 .ret))))))))))⟩
theorem a5_ok : afn Try.prog 5 = some a5.er := by kernel_rfl
theorem F5_ok {x0 : (List Op)} {x1 : ByteArray} {r : Bool} (h : F5 x0 x1 = some r) : CallD Try.prog 5 [.c (.d (.sl (x0.map eOp))), .c (.d (.v (.string x1)))] [] (tupV [.c (.d (.v (.bool r)))]) [] := by
  refine callS a5_ok (by simp [a5]) ?_
  rw [F5] at h
  simp only [a5, VW.down, Nat.reduceEqDiff, reduceCtorEq, Nat.reduceAdd, Nat.reduceLeDiff, Nat.reduceLT, Nat.reduceBEq, Nat.reduceSub, EE.down]
  obtain ⟨o1, ho, h⟩ := Option.bind_eq_some_iff.1 h
  refine cutS (fun s => s = ⟨[(0, .one (.c (.d (.sl (x0.map eOp))))), (1, .one (.c (.d (.v (.string x1))))), (22, .one (.c (.d (.v (.bool o1)))))], []⟩) ?_ ?_
  · have h := ho
    clear ho
    simp only [VW.down, Nat.reduceEqDiff, reduceCtorEq, Nat.reduceAdd, Nat.reduceLeDiff, Nat.reduceLT, Nat.reduceBEq, Nat.reduceSub, EE.down]
    obtain ⟨t2, ht2, h⟩ := Option.bind_eq_some_iff.1 h
    refine callX_n [] (F7_ok ht2) ?_ ?_ ?_ ?_ ?_ ?_
    · first | rfl | simp [nrmA, nrmC, nrm, A1.ren, C.ren, rn, List.length_set]
    · simp [liveAll, A1.live, C.live]
    · rfl
    · decide
    · exact trivial
    simp only [VW.down, Nat.reduceEqDiff, reduceCtorEq, Nat.reduceAdd, Nat.reduceLeDiff, Nat.reduceLT, Nat.reduceBEq, Nat.reduceSub, EE.down]
    refine guardSB (fun g3 => ?_) (fun g3 => ?_)
    · have h := (if_pos g3).symm.trans h
      simp only [VW.down, Nat.reduceEqDiff, reduceCtorEq, Nat.reduceAdd, Nat.reduceLeDiff, Nat.reduceLT, Nat.reduceBEq, Nat.reduceSub, EE.down]
      obtain rfl := Option.some.inj h
      exact eM [] rfl
    · have h := (if_neg g3).symm.trans h
      simp only [VW.down, Nat.reduceEqDiff, reduceCtorEq, Nat.reduceAdd, Nat.reduceLeDiff, Nat.reduceLT, Nat.reduceBEq, Nat.reduceSub, EE.down]
      obtain rfl := Option.some.inj h
      exact eM [] rfl
  · rintro _ rfl
    clear ho
    simp only [VW.down, Nat.reduceEqDiff, reduceCtorEq, Nat.reduceAdd, Nat.reduceLeDiff, Nat.reduceLT, Nat.reduceBEq, Nat.reduceSub, EE.down]
    refine condB (fun c4 => ?_) (fun c4 => ?_)
    · have h := (if_pos c4).symm.trans h
      simp only [VW.down, Nat.reduceEqDiff, reduceCtorEq, Nat.reduceAdd, Nat.reduceLeDiff, Nat.reduceLT, Nat.reduceBEq, Nat.reduceSub, EE.down]
      obtain ⟨t5, ht5, h⟩ := Option.bind_eq_some_iff.1 h
      refine callX_n [] (F8_ok ht5) ?_ ?_ ?_ ?_ ?_ ?_
      · first | rfl | simp [nrmA, nrmC, nrm, A1.ren, C.ren, rn, List.length_set]
      · simp [liveAll, A1.live, C.live]
      · rfl
      · decide
      · exact trivial
      simp only [VW.down, Nat.reduceEqDiff, reduceCtorEq, Nat.reduceAdd, Nat.reduceLeDiff, Nat.reduceLT, Nat.reduceBEq, Nat.reduceSub, EE.down]
      obtain rfl := Option.some.inj h
      exact eF []
    · have h := (if_neg c4).symm.trans h
      simp only [VW.down, Nat.reduceEqDiff, reduceCtorEq, Nat.reduceAdd, Nat.reduceLeDiff, Nat.reduceLT, Nat.reduceBEq, Nat.reduceSub, EE.down]
      obtain ⟨t6, ht6, h⟩ := Option.bind_eq_some_iff.1 h
      refine callX_n [] (F9_ok ht6) ?_ ?_ ?_ ?_ ?_ ?_
      · first | rfl | simp [nrmA, nrmC, nrm, A1.ren, C.ren, rn, List.length_set]
      · simp [liveAll, A1.live, C.live]
      · rfl
      · decide
      · exact trivial
      simp only [VW.down, Nat.reduceEqDiff, reduceCtorEq, Nat.reduceAdd, Nat.reduceLeDiff, Nat.reduceLT, Nat.reduceBEq, Nat.reduceSub, EE.down]
      obtain ⟨o7, ho, h⟩ := Option.bind_eq_some_iff.1 h
      refine cutS (fun s => s = ⟨[(1, .one (.c (.d (.v (.string x1))))), (5, .one (.c (.pt 0 0)))], [some (.box [.d (.sl (((o7).Ready).map eS)), .d (.sl (((o7).Working).map eS)), .d (.sl (((o7).Dirty).map eS)), .d (.sl (((o7).Later).map eWorkItem)), .d (.sl (((o7).Retries).map eWorkItem))])]⟩) ?_ ?_
      · have h := ho
        clear ho
        obtain ⟨_, hk, h⟩ := Option.bind_eq_some_iff.1 h
        have hk := ck_some hk
        simp only [VW.down, Nat.reduceEqDiff, reduceCtorEq, Nat.reduceAdd, Nat.reduceLeDiff, Nat.reduceLT, Nat.reduceBEq, Nat.reduceSub, EE.down]
        refine bL (fun j s => ∃ (o7_5 : Nat) (o7_0 : (List ByteArray)) (o7_1 : List ByteArray) (o7_2 : List ByteArray) (o7_3 : List WorkItem) (o7_4 : List WorkItem), (o7_5 ≤ x0.length ∧ j = x0.length - o7_5) ∧ s = ⟨[(0, .one (.c (.d (.sl (x0.map eOp))))), (1, .one (.c (.d (.v (.string x1))))), (5, .one (.c (.pt 0 0))), (6, .one (.c (.d (.v (.int .i64 ((o7_5 : Int)))))))], [some (.box [.d (.sl (o7_0.map eS)), .d (.sl (o7_1.map eS)), .d (.sl (o7_2.map eS)), .d (.sl (o7_3.map eWorkItem)), .d (.sl (o7_4.map eWorkItem))])]⟩ ∧ F5_l7 (x0.drop o7_5) o7_5 o7_0 o7_1 o7_2 o7_3 o7_4 = some o7) (x0.length - 0) [some 0] ⟨0, [], [], [], [], [], ⟨hk.1, rfl⟩, rfl, h⟩ ?_
        rintro _ _ ⟨o7_5, o7_0, o7_1, o7_2, o7_3, o7_4, ⟨hi, rfl⟩, rfl, h⟩
        simp only [VW.down, Nat.reduceEqDiff, reduceCtorEq, Nat.reduceAdd, Nat.reduceLeDiff, Nat.reduceLT, Nat.reduceBEq, Nat.reduceSub, EE.down]
        refine condS (fun c8 => ?_) (fun c8 => ?_)
        · obtain ⟨xo7, hxo7, hd⟩ := countY c8
          rw [hd, F5_l7] at h
          simp only [VW.down, Nat.reduceEqDiff, reduceCtorEq, Nat.reduceAdd, Nat.reduceLeDiff, Nat.reduceLT, Nat.reduceBEq, Nat.reduceSub, EE.down]
          refine t_idxF (enc := eOp) (xs := x0) rfl rfl hxo7 rfl ?_
          simp only [VW.down, Nat.reduceEqDiff, reduceCtorEq, Nat.reduceAdd, Nat.reduceLeDiff, Nat.reduceLT, Nat.reduceBEq, Nat.reduceSub, EE.down]
          obtain ⟨t9, ht9, h⟩ := Option.bind_eq_some_iff.1 h
          refine callX_n [] (F11_ok ht9) ?_ ?_ ?_ ?_ ?_ ?_
          · first | rfl | simp [nrmA, nrmC, nrm, A1.ren, C.ren, rn, List.length_set]
          · simp [liveAll, A1.live, C.live]
          · rfl
          · decide
          · exact trivial
          simp only [VW.down, Nat.reduceEqDiff, reduceCtorEq, Nat.reduceAdd, Nat.reduceLeDiff, Nat.reduceLT, Nat.reduceBEq, Nat.reduceSub, EE.down]
          refine kD_new (by simp [wrs, allW, hset]) ?_
          simp only [VW.down, Nat.reduceEqDiff, reduceCtorEq, Nat.reduceAdd, Nat.reduceLeDiff, Nat.reduceLT, Nat.reduceBEq, Nat.reduceSub, EE.down]
          refine kD_new (by simp [wrs, allW, hset]) ?_
          simp only [VW.down, Nat.reduceEqDiff, reduceCtorEq, Nat.reduceAdd, Nat.reduceLeDiff, Nat.reduceLT, Nat.reduceBEq, Nat.reduceSub, EE.down]
          rw [wrapN (by omega)]
          exact eL' (x0.length - (o7_5 + 1)) [some 0] ⟨o7_5 + 1, t9.1, t9.2.1, t9.2.2.1, t9.2.2.2.1, t9.2.2.2.2.1, ⟨by omega, rfl⟩, rfl, h⟩ (by omega)
        · rw [countN c8, F5_l7] at h
          simp only [VW.down, Nat.reduceEqDiff, reduceCtorEq, Nat.reduceAdd, Nat.reduceLeDiff, Nat.reduceLT, Nat.reduceBEq, Nat.reduceSub, EE.down]
          obtain rfl := Option.some.inj h
          exact eM [some 0] rfl
      · rintro _ rfl
        clear ho
        simp only [VW.down, Nat.reduceEqDiff, reduceCtorEq, Nat.reduceAdd, Nat.reduceLeDiff, Nat.reduceLT, Nat.reduceBEq, Nat.reduceSub, EE.down]
        obtain ⟨t11, ht11, h⟩ := Option.bind_eq_some_iff.1 h
        refine callX_n [] (F15_ok ht11) ?_ ?_ ?_ ?_ ?_ ?_
        · first | rfl | simp [nrmA, nrmC, nrm, A1.ren, C.ren, rn, List.length_set]
        · simp [liveAll, A1.live, C.live]
        · rfl
        · decide
        · exact trivial
        simp only [VW.down, Nat.reduceEqDiff, reduceCtorEq, Nat.reduceAdd, Nat.reduceLeDiff, Nat.reduceLT, Nat.reduceBEq, Nat.reduceSub, EE.down]
        obtain ⟨o12, ho, h⟩ := Option.bind_eq_some_iff.1 h
        refine cutS (fun s => s = ⟨[(1, .one (.c (.d (.v (.string x1))))), (5, .one (.c (.pt 0 0))), (56, .one (.c (.d (.v (.bool o12)))))], [some (.box [.own 1 0 0 (t11.1.length) none, .own 2 0 0 (t11.2.1.length) none, .own 3 0 0 (t11.2.2.1.length) none, .own 4 0 0 (t11.2.2.2.1.length) none, .own 5 0 0 (t11.2.2.2.2.length) none]), some (.arr 0 1 (t11.1.map eS)), some (.arr 0 1 (t11.2.1.map eS)), some (.arr 0 1 (t11.2.2.1.map eS)), some (.arr 0 2 (t11.2.2.2.1.map eWorkItem)), some (.arr 0 2 (t11.2.2.2.2.map eWorkItem))]⟩) ?_ ?_
        · have h := ho
          clear ho
          simp only [VW.down, Nat.reduceEqDiff, reduceCtorEq, Nat.reduceAdd, Nat.reduceLeDiff, Nat.reduceLT, Nat.reduceBEq, Nat.reduceSub, EE.down]
          obtain ⟨t13, ht13, h⟩ := Option.bind_eq_some_iff.1 h
          refine callX_bor (F14_ok ht13) (by simp only [borAs, bors, hp, List.getElem?_cons_zero, List.getElem?_cons_succ, Option.join_some, List.drop_zero, bor_full', true_and, Nat.zero_add, List.length_map, Nat.le_refl, nrm, List.length_cons, List.length_nil, Nat.reduceAdd, Nat.reduceLeDiff, List.take_succ_cons, List.take_zero, List.take_nil, List.map_cons, List.map_nil, List.length_set, EE.down]) rfl ?_
          simp only [VW.down, Nat.reduceEqDiff, reduceCtorEq, Nat.reduceAdd, Nat.reduceLeDiff, Nat.reduceLT, Nat.reduceBEq, Nat.reduceSub, EE.down]
          refine guardSB (fun g14 => ?_) (fun g14 => ?_)
          · have h := (if_pos g14).symm.trans h
            simp only [VW.down, Nat.reduceEqDiff, reduceCtorEq, Nat.reduceAdd, Nat.reduceLeDiff, Nat.reduceLT, Nat.reduceBEq, Nat.reduceSub, EE.down]
            obtain ⟨t15, ht15, h⟩ := Option.bind_eq_some_iff.1 h
            refine callX_bor (F14_ok ht15) (by simp only [borAs, bors, hp, List.getElem?_cons_zero, List.getElem?_cons_succ, Option.join_some, List.drop_zero, bor_full', true_and, Nat.zero_add, List.length_map, Nat.le_refl, nrm, List.length_cons, List.length_nil, Nat.reduceAdd, Nat.reduceLeDiff, List.take_succ_cons, List.take_zero, List.take_nil, List.map_cons, List.map_nil, List.length_set, EE.down]) rfl ?_
            simp only [VW.down, Nat.reduceEqDiff, reduceCtorEq, Nat.reduceAdd, Nat.reduceLeDiff, Nat.reduceLT, Nat.reduceBEq, Nat.reduceSub, EE.down]
            obtain rfl := Option.some.inj h
            exact eM [some 0, some 1, some 2, some 3, some 4, some 5] rfl
          · have h := (if_neg g14).symm.trans h
            simp only [VW.down, Nat.reduceEqDiff, reduceCtorEq, Nat.reduceAdd, Nat.reduceLeDiff, Nat.reduceLT, Nat.reduceBEq, Nat.reduceSub, EE.down]
            obtain rfl := Option.some.inj h
            exact eM [some 0, some 1, some 2, some 3, some 4, some 5] rfl
        · rintro _ rfl
          clear ho
          simp only [VW.down, Nat.reduceEqDiff, reduceCtorEq, Nat.reduceAdd, Nat.reduceLeDiff, Nat.reduceLT, Nat.reduceBEq, Nat.reduceSub, EE.down]
          refine condB (fun c16 => ?_) (fun c16 => ?_)
          · have h := (if_pos c16).symm.trans h
            simp only [VW.down, Nat.reduceEqDiff, reduceCtorEq, Nat.reduceAdd, Nat.reduceLeDiff, Nat.reduceLT, Nat.reduceBEq, Nat.reduceSub, EE.down]
            obtain rfl := Option.some.inj h
            exact eF []
          · have h := (if_neg c16).symm.trans h
            simp only [VW.down, Nat.reduceEqDiff, reduceCtorEq, Nat.reduceAdd, Nat.reduceLeDiff, Nat.reduceLT, Nat.reduceBEq, Nat.reduceSub, EE.down]
            refine t_bslice (enc := eS) (ys := ([] : List ByteArray)) rfl rfl (by simp [A1.cells]) rfl ?_
            simp only [VW.down, Nat.reduceEqDiff, reduceCtorEq, Nat.reduceAdd, Nat.reduceLeDiff, Nat.reduceLT, Nat.reduceBEq, Nat.reduceSub, EE.down]
            obtain ⟨a17, ha17, h⟩ := Option.bind_eq_some_iff.1 h
            refine t_app (enc := eS) (xs := ([] : List ByteArray)) rfl rfl (by first | rfl | simp only [List.length_set] | exact (clrL_len (slI_len (by assumption))).symm) rfl (rows_full (enc := eS) (by first | rfl | simp only [List.length_set] | exact (clrL_len (slI_len (by assumption))).symm) rfl) ha17 ?_
            simp only [VW.down, Nat.reduceEqDiff, reduceCtorEq, Nat.reduceAdd, Nat.reduceLeDiff, Nat.reduceLT, Nat.reduceBEq, Nat.reduceSub, EE.down]
            obtain ⟨o18, ho, h⟩ := Option.bind_eq_some_iff.1 h
            refine cutS (fun s => s = ⟨[(1, .one (.c (.d (.v (.string x1))))), (5, .one (.c (.pt 0 0)))], [some (.box [.own 1 0 0 (o18.1.length) none, .own 2 0 0 (o18.2.1.length) none, .own 3 0 0 (o18.2.2.1.length) none, .own 4 0 0 (o18.2.2.2.1.length) none, .own 5 0 0 (o18.2.2.2.2.length) none]), some (.arr 0 1 (o18.1.map eS)), some (.arr 0 1 (o18.2.1.map eS)), some (.arr 0 1 (o18.2.2.1.map eS)), some (.arr 0 2 (o18.2.2.2.1.map eWorkItem)), some (.arr 0 2 (o18.2.2.2.2.map eWorkItem))]⟩) ?_ ?_
            · have h := ho
              clear ho
              obtain ⟨_, hk, h⟩ := Option.bind_eq_some_iff.1 h
              have hk := ck_some hk
              simp only [VW.down, Nat.reduceEqDiff, reduceCtorEq, Nat.reduceAdd, Nat.reduceLeDiff, Nat.reduceLT, Nat.reduceBEq, Nat.reduceSub, EE.down]
              refine bL (fun j s => ∃ (o18_5 : Nat) (o18_0 : List ByteArray) (o18_1 : List ByteArray) (o18_2 : List ByteArray) (o18_3 : List WorkItem) (o18_4 : List WorkItem), (o18_5 ≤ a17.length ∧ j = a17.length - o18_5) ∧ s = ⟨[(1, .one (.c (.d (.v (.string x1))))), (5, .one (.c (.pt 0 0))), (10, .one (.c (.own 6 0 0 (a17.length) none))), (11, .one (.c (.d (.v (.int .i64 ((o18_5 : Int)))))))], [some (.box [.own 1 0 0 (o18_0.length) none, .own 2 0 0 (o18_1.length) none, .own 3 0 0 (o18_2.length) none, .own 4 0 0 (o18_3.length) none, .own 5 0 0 (o18_4.length) none]), some (.arr 0 1 (o18_0.map eS)), some (.arr 0 1 (o18_1.map eS)), some (.arr 0 1 (o18_2.map eS)), some (.arr 0 2 (o18_3.map eWorkItem)), some (.arr 0 2 (o18_4.map eWorkItem)), some (.arr 0 1 (a17.map eS))]⟩ ∧ F5_l18 a17 (a17.drop o18_5) o18_5 o18_0 o18_1 o18_2 o18_3 o18_4 = some o18) (a17.length - 0) [some 0, some 1, some 2, some 3, some 4, some 5, some 6] ⟨0, t11.1, t11.2.1, t11.2.2.1, t11.2.2.2.1, t11.2.2.2.2, ⟨hk.1, rfl⟩, rfl, h⟩ ?_
              rintro _ _ ⟨o18_5, o18_0, o18_1, o18_2, o18_3, o18_4, ⟨hi, rfl⟩, rfl, h⟩
              simp only [VW.down, Nat.reduceEqDiff, reduceCtorEq, Nat.reduceAdd, Nat.reduceLeDiff, Nat.reduceLT, Nat.reduceBEq, Nat.reduceSub, EE.down]
              refine condS (fun c19 => ?_) (fun c19 => ?_)
              · obtain ⟨xo18, hxo18, hd⟩ := countY c19
                rw [hd, F5_l18] at h
                simp only [VW.down, Nat.reduceEqDiff, reduceCtorEq, Nat.reduceAdd, Nat.reduceLeDiff, Nat.reduceLT, Nat.reduceBEq, Nat.reduceSub, EE.down]
                obtain ⟨y20, hy20, h⟩ := Option.bind_eq_some_iff.1 h
                refine t_idxO (enc := eS) (xs := a17) rfl rfl rfl (by first | rfl | simp only [List.length_set] | exact (clrL_len (slI_len (by assumption))).symm) hy20 ?_
                simp only [VW.down, Nat.reduceEqDiff, reduceCtorEq, Nat.reduceAdd, Nat.reduceLeDiff, Nat.reduceLT, Nat.reduceBEq, Nat.reduceSub, EE.down]
                refine LdRow.rd (rdI_some hy20).2.1 ?_
                simp only [VW.down, Nat.reduceEqDiff, reduceCtorEq, Nat.reduceAdd, Nat.reduceLeDiff, Nat.reduceLT, Nat.reduceBEq, Nat.reduceSub, EE.down]
                obtain ⟨t21, ht21, h⟩ := Option.bind_eq_some_iff.1 h
                refine callX_borF (F16_ok ht21) (by simp only [borAs, bors, hp, List.getElem?_cons_zero, List.getElem?_cons_succ, Option.join_some, List.drop_zero, bor_full', true_and, Nat.zero_add, List.length_map, Nat.le_refl, nrm, List.length_cons, List.length_nil, Nat.reduceAdd, Nat.reduceLeDiff, List.take_succ_cons, List.take_zero, List.take_nil, List.map_cons, List.map_nil, List.length_set, EE.down]) rfl ⟨flat_rows (enc := eS) (fun _ => rfl) _, flat_rows (enc := eS) (fun _ => rfl) _, flat_rows (enc := eS) (fun _ => rfl) _, flat_rows (enc := eWorkItem) (fun _ => rfl) _, flat_rows (enc := eWorkItem) (fun _ => rfl) _, trivial⟩ ?_
                simp only [VW.down, Nat.reduceEqDiff, reduceCtorEq, Nat.reduceAdd, Nat.reduceLeDiff, Nat.reduceLT, Nat.reduceBEq, Nat.reduceSub, EE.down]
                rw [wrapN (by omega)]
                exact eL' (a17.length - (o18_5 + 1)) [some 0, some 7, some 8, some 9, some 10, some 11, some 6] ⟨o18_5 + 1, t21.1, t21.2.1, t21.2.2.1, t21.2.2.2.1, t21.2.2.2.2, ⟨by omega, rfl⟩, rfl, h⟩ (by omega)
              · rw [countN c19, F5_l18] at h
                simp only [VW.down, Nat.reduceEqDiff, reduceCtorEq, Nat.reduceAdd, Nat.reduceLeDiff, Nat.reduceLT, Nat.reduceBEq, Nat.reduceSub, EE.down]
                obtain rfl := Option.some.inj h
                exact eM [some 0, some 1, some 2, some 3, some 4, some 5] rfl
            · rintro _ rfl
              clear ho
              simp only [VW.down, Nat.reduceEqDiff, reduceCtorEq, Nat.reduceAdd, Nat.reduceLeDiff, Nat.reduceLT, Nat.reduceBEq, Nat.reduceSub, EE.down]
              obtain ⟨o23, ho, h⟩ := Option.bind_eq_some_iff.1 h
              refine cutS (fun s => ∃ po23, o23 = Sum.inr po23 ∧ s = ⟨[], []⟩) ?_ ?_
              · have h0o23 := h
                have h := ho
                clear ho
                simp only [VW.down, Nat.reduceEqDiff, reduceCtorEq, Nat.reduceAdd, Nat.reduceLeDiff, Nat.reduceLT, Nat.reduceBEq, Nat.reduceSub, EE.down]
                refine bL (fun j s => ∃ (o23_0 : List ByteArray) (o23_1 : List ByteArray) (o23_2 : List ByteArray) (o23_3 : List WorkItem) (o23_4 : List WorkItem) (o23_5 : Int), s = ⟨[(1, .one (.c (.d (.v (.string x1))))), (5, .one (.c (.pt 0 0))), (12, .one (.c (.d (.v (.int .i64 o23_5)))))], [some (.box [.d (.sl (o23_0.map eS)), .d (.sl (o23_1.map eS)), .d (.sl (o23_2.map eS)), .d (.sl (o23_3.map eWorkItem)), .d (.sl (o23_4.map eWorkItem))])]⟩ ∧ F5_l23 x1 j o23_0 o23_1 o23_2 o23_3 o23_4 o23_5 = some o23) 1099511627776 [some 0] ⟨o18.1, o18.2.1, o18.2.2.1, o18.2.2.2.1, o18.2.2.2.2, 0, rfl, h⟩ ?_
                rintro j _ ⟨o23_0, o23_1, o23_2, o23_3, o23_4, o23_5, rfl, h⟩
                cases j with
                | zero => cases (show (none : Option _) = some _ from h)
                | succ j =>
                  rw [F5_l23] at h
                  simp only [VW.down, Nat.reduceEqDiff, reduceCtorEq, Nat.reduceAdd, Nat.reduceLeDiff, Nat.reduceLT, Nat.reduceBEq, Nat.reduceSub, EE.down]
                  refine condS (fun c24 => ?_) (fun c24 => ?_)
                  · have h := (if_pos c24).symm.trans h
                    simp only [VW.down, Nat.reduceEqDiff, reduceCtorEq, Nat.reduceAdd, Nat.reduceLeDiff, Nat.reduceLT, Nat.reduceBEq, Nat.reduceSub, EE.down]
                    obtain ⟨t25, ht25, h⟩ := Option.bind_eq_some_iff.1 h
                    refine callX_n [] (F17_ok ht25) ?_ ?_ ?_ ?_ ?_ ?_
                    · first | rfl | simp [nrmA, nrmC, nrm, A1.ren, C.ren, rn, List.length_set]
                    · simp [liveAll, A1.live, C.live]
                    · rfl
                    · decide
                    · exact trivial
                    simp only [VW.down, Nat.reduceEqDiff, reduceCtorEq, Nat.reduceAdd, Nat.reduceLeDiff, Nat.reduceLT, Nat.reduceBEq, Nat.reduceSub, EE.down]
                    refine condB (fun c26 => ?_) (fun c26 => ?_)
                    · have h := (if_pos c26).symm.trans h
                      simp only [VW.down, Nat.reduceEqDiff, reduceCtorEq, Nat.reduceAdd, Nat.reduceLeDiff, Nat.reduceLT, Nat.reduceBEq, Nat.reduceSub, EE.down]
                      obtain ⟨fh0o23, hfh0o23, rfl⟩ := Option.map_eq_some_iff.1 h
                      have h := hfh0o23.trans h0o23
                      obtain rfl := Option.some.inj h
                      exact eF []
                    · have h := (if_neg c26).symm.trans h
                      simp only [VW.down, Nat.reduceEqDiff, reduceCtorEq, Nat.reduceAdd, Nat.reduceLeDiff, Nat.reduceLT, Nat.reduceBEq, Nat.reduceSub, EE.down]
                      refine condS (fun c27 => ?_) (fun c27 => ?_)
                      · have h := (if_pos c27).symm.trans h
                        simp only [VW.down, Nat.reduceEqDiff, reduceCtorEq, Nat.reduceAdd, Nat.reduceLeDiff, Nat.reduceLT, Nat.reduceBEq, Nat.reduceSub, EE.down]
                        obtain ⟨t28, ht28, h⟩ := Option.bind_eq_some_iff.1 h
                        refine callX_n [] (F8_ok ht28) ?_ ?_ ?_ ?_ ?_ ?_
                        · first | rfl | simp [nrmA, nrmC, nrm, A1.ren, C.ren, rn, List.length_set]
                        · simp [liveAll, A1.live, C.live]
                        · rfl
                        · decide
                        · exact trivial
                        simp only [VW.down, Nat.reduceEqDiff, reduceCtorEq, Nat.reduceAdd, Nat.reduceLeDiff, Nat.reduceLT, Nat.reduceBEq, Nat.reduceSub, EE.down]
                        obtain ⟨fh0o23, hfh0o23, rfl⟩ := Option.map_eq_some_iff.1 h
                        have h := hfh0o23.trans h0o23
                        obtain rfl := Option.some.inj h
                        exact eF []
                      · have h := (if_neg c27).symm.trans h
                        simp only [VW.down, Nat.reduceEqDiff, reduceCtorEq, Nat.reduceAdd, Nat.reduceLeDiff, Nat.reduceLT, Nat.reduceBEq, Nat.reduceSub, EE.down]
                        obtain ⟨t29, ht29, h⟩ := Option.bind_eq_some_iff.1 h
                        refine callX_borF (F16_ok ht29) (by simp only [borAs, bors, hp, List.getElem?_cons_zero, List.getElem?_cons_succ, Option.join_some, List.drop_zero, bor_full', true_and, Nat.zero_add, List.length_map, Nat.le_refl, nrm, List.length_cons, List.length_nil, Nat.reduceAdd, Nat.reduceLeDiff, List.take_succ_cons, List.take_zero, List.take_nil, List.map_cons, List.map_nil, List.length_set, EE.down]) rfl ⟨flat_rows (enc := eS) (fun _ => rfl) _, flat_rows (enc := eS) (fun _ => rfl) _, flat_rows (enc := eS) (fun _ => rfl) _, flat_rows (enc := eWorkItem) (fun _ => rfl) _, flat_rows (enc := eWorkItem) (fun _ => rfl) _, trivial⟩ ?_
                        simp only [VW.down, Nat.reduceEqDiff, reduceCtorEq, Nat.reduceAdd, Nat.reduceLeDiff, Nat.reduceLT, Nat.reduceBEq, Nat.reduceSub, EE.down]
                        exact eL' j [some 0] ⟨t29.1, t29.2.1, t29.2.2.1, t29.2.2.2.1, t29.2.2.2.2, (IntKind.i64.wrap (o23_5 + 1)), rfl, h⟩ (Nat.lt_succ_self _)
                  · have h := (if_neg c24).symm.trans h
                    simp only [VW.down, Nat.reduceEqDiff, reduceCtorEq, Nat.reduceAdd, Nat.reduceLeDiff, Nat.reduceLT, Nat.reduceBEq, Nat.reduceSub, EE.down]
                    obtain rfl := Option.some.inj h
                    exact eM [] ⟨_, rfl, rfl⟩
              · rintro _ ⟨po23, rfl, rfl⟩
                clear ho
                dsimp only at h
                simp only [VW.down, Nat.reduceEqDiff, reduceCtorEq, Nat.reduceAdd, Nat.reduceLeDiff, Nat.reduceLT, Nat.reduceBEq, Nat.reduceSub, EE.down]
                obtain rfl := Option.some.inj h
                exact eF []

/- orchestrator/orchestratorlaw31.WorkqueueOne -/
def F6_l5  : List Op → Nat → ((List ByteArray)) → (List ByteArray) → (List ByteArray) → (List WorkItem) → (List WorkItem) → (List ByteArray) → Option ((Bool) ⊕ (Unit))
  | [], o5_6, o5_0, o5_1, o5_2, o5_3, o5_4, o5_5 => some (Sum.inr (()))
  | xo5 :: xs, o5_6, o5_0, o5_1, o5_2, o5_3, o5_4, o5_5 => (((F11 ((⟨o5_0, o5_1, o5_2, o5_3, o5_4⟩ : WorkQueue)) xo5).bind fun t8 => (((if t8.2.2.2.2.2.2 = true then (F14 o5_5 t8.2.2.2.2.2.1).bind fun t11 => some t11 else some false)).bind fun o9 => (if o9 = true then ((some false).map Sum.inl).map Sum.inl else (((if t8.2.2.2.2.2.2 = true then (apI o5_5 ([t8.2.2.2.2.2.1])).bind fun a15 => some a15 else some o5_5)).bind fun o13 => (if (xo5.Kind.tmod 7) = 3 then (F18 o13 ([xo5.Key])).bind fun t17 => some (Sum.inr ((t8.1, t8.2.1, t8.2.2.1, t8.2.2.2.1, t8.2.2.2.2.1, t17))) else some (Sum.inr ((t8.1, t8.2.1, t8.2.2.1, t8.2.2.2.1, t8.2.2.2.2.1, o13)))))))).bind fun o7 => match o7 with | Sum.inl f => some f | Sum.inr po7 => F6_l5  xs (o5_6 + 1) po7.1 po7.2.1 po7.2.2.1 po7.2.2.2.1 po7.2.2.2.2.1 po7.2.2.2.2.2)
def F6 (x0 : (List Op)) : Option (Bool) := (F7 x0).bind fun t1 => (if t1 = true then (F8).bind fun t3 => some t3 else (F9).bind fun t4 => (((ck (0 ≤ x0.length ∧ x0.length ≤ 4294967290)).bind fun u18 => F6_l5 x0 0 ([]) ([]) ([]) ([]) ([]) ([])).bind fun o5 => match o5 with | Sum.inl f => some f | Sum.inr po5 => (F8).bind fun t19 => some t19))
def a6 : AFn := ⟨57, [(.tmp 2)],
 (.seq (.reg [⟨(some 2), none, .mv (kB false), [], (.new [])⟩])
 (.seq (.seq (.reg [⟨(some 9), none, .mv (.t 0), [], (.new [])⟩,
   ⟨(some 10), none, .call 7 [(.t 9)], [], (.lone [])⟩])
 (.cond (.t 10)
 (.seq (.reg [⟨(some 11), none, .call 8 [], [], (.new [])⟩,
   ⟨(some 2), none, .mv (.t 11), [], (.new [])⟩])
 .ret)
 .skip))
 (.seq (.reg [⟨(some 12), none, .call 9 [], [], (.new [])⟩,
   ⟨(some 3), none, .zbox [.d (.v (.slice none 0 0)), .d (.v (.slice none 0 0)), .d (.v (.slice none 0 0)), .d (.v (.slice none 0 0)), .d (.v (.slice none 0 0))], [], (.new [])⟩,
   ⟨none, none, .store 5 (.t 3) (.t 12), [], (.new [])⟩])
 (.seq (.reg [⟨(some 4), none, .mv kN, [], (.new [])⟩])
 (.seq (.seq (.reg [⟨(some 5), none, .mv (kI 0), [], (.new [])⟩])
 (.sem (.block 0 (.loop (.seq (.seq (.reg [⟨(some 13), none, .mv (.t 5), [], (.new [])⟩,
   ⟨(some 14), none, .mv (.t 0), [], (.new [])⟩,
   ⟨(some 15), none, .len (.t 14), [], (.new [])⟩,
   ⟨(some 16), none, .bin .lss (.t 13) (.t 15), [], (.new [])⟩])
 (.cond (.t 16)
 .skip
 (.exit 0)))
 (.seq (.sem (.block 1 (.seq (.regd [⟨(some 20), none, .load (some 5) (.t 3), [], (.new [])⟩,
   ⟨(some 21), none, .mv (.t 0), [], (.new [])⟩,
   ⟨(some 22), none, .mv (.t 5), [], (.new [])⟩,
   ⟨(some 23), none, .indexA 5 (.t 21) (.t 22), [1, 2], (.new [])⟩,
   ⟨(some 24), none, .load (some 5) (.t 23), [1, 2, 3], (.new [])⟩,
   ⟨(some 25), none, .call 11 [(.t 20), (.t 24)], [0, 1, 2, 3, 4], (.new [0, 1, 2, 3, 4])⟩,
   ⟨(some 19), none, .mv (.t 25), [0, 1, 2, 3, 4, 5], (.new [])⟩,
   ⟨(some 26), none, .ext (.t 19) 0, [0, 1, 2, 3, 4, 5, 6], (.new [])⟩,
   ⟨(some 27), none, .ext (.t 19) 1, [0, 1, 2, 3, 4, 5, 6], (.new [])⟩,
   ⟨(some 28), none, .ext (.t 19) 2, [0, 1, 2, 3, 4, 5, 6], (.new [])⟩,
   ⟨(some 6), none, .zbox [.d (.v (.slice none 0 0)), .d (.v (.slice none 0 0)), .d (.v (.slice none 0 0)), .d (.v (.slice none 0 0)), .d (.v (.slice none 0 0))], [], (.new [])⟩,
   ⟨none, none, .store 5 (.t 6) (.t 26), [0, 1, 2, 3, 4, 5, 6, 7, 10], (.lone [])⟩,
   ⟨(some 7), none, .mv (.t 27), [0, 1, 2, 3, 4, 5, 6, 7, 8, 10, 11], (.new [])⟩,
   ⟨(some 8), none, .mv (.t 28), [0, 1, 2, 3, 4, 5, 6, 7, 8, 9, 10, 11, 12], (.new [])⟩])
 (.seq (.reg [⟨(some 29), none, .load (some 5) (.t 6), [], (.new [])⟩,
   ⟨none, none, .store 5 (.t 3) (.t 29), [], (.lone [6])⟩])
 (.seq (.seq (.sem (.reg [⟨(some 30), none, .mv (.t 8), [], (.new [])⟩,
   ⟨(some 31), none, .mv (.t 30), [], (.new [])⟩,
   ⟨(some 32), (some (31, true)), .mv (.t 4), [], (.new [])⟩,
   ⟨(some 33), (some (31, true)), .mv (.t 7), [], (.new [])⟩,
   ⟨(some 34), (some (31, true)), .call 14 [(.t 32), (.t 33)], [], (.new [])⟩,
   ⟨(some 35), none, .pick (.t 31) (.t 34) (kB false), [], (.new [])⟩]))
 (.cond (.t 35)
 (.seq (.reg [⟨(some 2), none, .mv (kB false), [], (.new [])⟩])
 .ret)
 .skip))
 (.seq (.sem (.seq (.reg [⟨(some 36), none, .mv (.t 8), [], (.new [])⟩])
 (.cond (.t 36)
 (.reg [⟨(some 37), none, .mv (.t 4), [], (.new [])⟩,
   ⟨(some 38), none, .mv (.t 7), [], (.new [])⟩,
   ⟨(some 39), none, .bslice 1 [(.t 38)], [], (.new [])⟩,
   ⟨(some 40), none, .app 1 16 (.t 37) (.t 39), [], (.new [])⟩,
   ⟨(some 4), none, .mv (.t 40), [], (.new [])⟩])
 .skip)))
 (.seq (.reg [⟨(some 41), none, .mv (.t 0), [], (.new [])⟩,
   ⟨(some 42), none, .mv (.t 5), [], (.new [])⟩,
   ⟨(some 43), none, .indexA 5 (.t 41) (.t 42), [], (.new [])⟩,
   ⟨(some 44), none, .fieldA 0 (.t 43), [], (.new [])⟩,
   ⟨(some 45), none, .load none (.t 44), [], (.new [])⟩,
   ⟨(some 46), none, .bin .rem (.t 45) (.k (.c (.d (.v (.int .u8 7))))), [], (.new [])⟩,
   ⟨(some 47), none, .bin .eql (.t 46) (.k (.c (.d (.v (.int .u8 3))))), [], (.new [])⟩])
 (.cond (.t 47)
 (.reg [⟨(some 48), none, .mv (.t 4), [], (.new [])⟩,
   ⟨(some 49), none, .mv (.t 0), [], (.new [])⟩,
   ⟨(some 50), none, .mv (.t 5), [], (.new [])⟩,
   ⟨(some 51), none, .indexA 5 (.t 49) (.t 50), [], (.new [])⟩,
   ⟨(some 52), none, .fieldA 1 (.t 51), [], (.new [])⟩,
   ⟨(some 53), none, .load none (.t 52), [], (.new [])⟩,
   ⟨(some 54), none, .bslice 1 [(.t 53)], [], (.new [])⟩,
   ⟨(some 55), none, .call 18 [(.t 48), (.t 54)], [], (.new [])⟩,
   ⟨(some 4), none, .mv (.t 55), [], (.new [])⟩])
 .skip))))))))
 (.reg [⟨(some 17), none, .mv (.t 5), [], (.new [])⟩,
   ⟨(some 18), none, .bin .add (.t 17) (kI 1), [], (.new [])⟩,
   ⟨(some 5), none, .mv (.t 18), [], (.new [])⟩])))))))
 (.seq (.reg [⟨(some 56), none, .call 8 [], [], (.new [])⟩,
   ⟨(some 2), none, .mv (.t 56), [], (.new [])⟩])
 .ret))))))⟩
theorem a6_ok : afn Try.prog 6 = some a6.er := by kernel_rfl
theorem F6_ok {x0 : (List Op)} {r : Bool} (h : F6 x0 = some r) : CallD Try.prog 6 [.c (.d (.sl (x0.map eOp)))] [] (tupV [.c (.d (.v (.bool r)))]) [] := by
  refine callS a6_ok (by simp [a6]) ?_
  rw [F6] at h
  simp only [a6, VW.down, Nat.reduceEqDiff, reduceCtorEq, Nat.reduceAdd, Nat.reduceLeDiff, Nat.reduceLT, Nat.reduceBEq, Nat.reduceSub, EE.down]
  obtain ⟨t1, ht1, h⟩ := Option.bind_eq_some_iff.1 h
  refine callX_n [] (F7_ok ht1) ?_ ?_ ?_ ?_ ?_ ?_
  · first | rfl | simp [nrmA, nrmC, nrm, A1.ren, C.ren, rn, List.length_set]
  · simp [liveAll, A1.live, C.live]
  · rfl
  · decide
  · exact trivial
  simp only [VW.down, Nat.reduceEqDiff, reduceCtorEq, Nat.reduceAdd, Nat.reduceLeDiff, Nat.reduceLT, Nat.reduceBEq, Nat.reduceSub, EE.down]
  refine condB (fun c2 => ?_) (fun c2 => ?_)
  · have h := (if_pos c2).symm.trans h
    simp only [VW.down, Nat.reduceEqDiff, reduceCtorEq, Nat.reduceAdd, Nat.reduceLeDiff, Nat.reduceLT, Nat.reduceBEq, Nat.reduceSub, EE.down]
    obtain ⟨t3, ht3, h⟩ := Option.bind_eq_some_iff.1 h
    refine callX_n [] (F8_ok ht3) ?_ ?_ ?_ ?_ ?_ ?_
    · first | rfl | simp [nrmA, nrmC, nrm, A1.ren, C.ren, rn, List.length_set]
    · simp [liveAll, A1.live, C.live]
    · rfl
    · decide
    · exact trivial
    simp only [VW.down, Nat.reduceEqDiff, reduceCtorEq, Nat.reduceAdd, Nat.reduceLeDiff, Nat.reduceLT, Nat.reduceBEq, Nat.reduceSub, EE.down]
    obtain rfl := Option.some.inj h
    exact eF []
  · have h := (if_neg c2).symm.trans h
    simp only [VW.down, Nat.reduceEqDiff, reduceCtorEq, Nat.reduceAdd, Nat.reduceLeDiff, Nat.reduceLT, Nat.reduceBEq, Nat.reduceSub, EE.down]
    obtain ⟨t4, ht4, h⟩ := Option.bind_eq_some_iff.1 h
    refine callX_n [] (F9_ok ht4) ?_ ?_ ?_ ?_ ?_ ?_
    · first | rfl | simp [nrmA, nrmC, nrm, A1.ren, C.ren, rn, List.length_set]
    · simp [liveAll, A1.live, C.live]
    · rfl
    · decide
    · exact trivial
    simp only [VW.down, Nat.reduceEqDiff, reduceCtorEq, Nat.reduceAdd, Nat.reduceLeDiff, Nat.reduceLT, Nat.reduceBEq, Nat.reduceSub, EE.down]
    obtain ⟨o5, ho, h⟩ := Option.bind_eq_some_iff.1 h
    refine cutS (fun s => ∃ po5, o5 = Sum.inr po5 ∧ s = ⟨[], []⟩) ?_ ?_
    · have h0o5 := h
      have h := ho
      clear ho
      obtain ⟨_, hk, h⟩ := Option.bind_eq_some_iff.1 h
      have hk := ck_some hk
      simp only [VW.down, Nat.reduceEqDiff, reduceCtorEq, Nat.reduceAdd, Nat.reduceLeDiff, Nat.reduceLT, Nat.reduceBEq, Nat.reduceSub, EE.down]
      refine bL (fun j s => ∃ (o5_6 : Nat) (o5_0 : (List ByteArray)) (o5_1 : List ByteArray) (o5_2 : List ByteArray) (o5_3 : List WorkItem) (o5_4 : List WorkItem) (o5_5 : List ByteArray), (o5_6 ≤ x0.length ∧ j = x0.length - o5_6) ∧ s = ⟨[(0, .one (.c (.d (.sl (x0.map eOp))))), (3, .one (.c (.pt 0 0))), (4, .one (.c (.own 1 0 0 (o5_5.length) none))), (5, .one (.c (.d (.v (.int .i64 ((o5_6 : Int)))))))], [some (.box [.d (.sl (o5_0.map eS)), .d (.sl (o5_1.map eS)), .d (.sl (o5_2.map eS)), .d (.sl (o5_3.map eWorkItem)), .d (.sl (o5_4.map eWorkItem))]), some (.arr 0 1 (o5_5.map eS))]⟩ ∧ F6_l5 (x0.drop o5_6) o5_6 o5_0 o5_1 o5_2 o5_3 o5_4 o5_5 = some o5) (x0.length - 0) [some 0, none] ⟨0, [], [], [], [], [], [], ⟨hk.1, rfl⟩, rfl, h⟩ ?_
      rintro _ _ ⟨o5_6, o5_0, o5_1, o5_2, o5_3, o5_4, o5_5, ⟨hi, rfl⟩, rfl, h⟩
      simp only [VW.down, Nat.reduceEqDiff, reduceCtorEq, Nat.reduceAdd, Nat.reduceLeDiff, Nat.reduceLT, Nat.reduceBEq, Nat.reduceSub, EE.down]
      refine condS (fun c6 => ?_) (fun c6 => ?_)
      · obtain ⟨xo5, hxo5, hd⟩ := countY c6
        rw [hd, F6_l5] at h
        simp only [VW.down, Nat.reduceEqDiff, reduceCtorEq, Nat.reduceAdd, Nat.reduceLeDiff, Nat.reduceLT, Nat.reduceBEq, Nat.reduceSub, EE.down]
        obtain ⟨o7, ho, h⟩ := Option.bind_eq_some_iff.1 h
        refine cutS (fun s => ∃ po7, o7 = Sum.inr po7 ∧ s = ⟨[(0, .one (.c (.d (.sl (x0.map eOp))))), (3, .one (.c (.pt 0 0))), (4, .one (.c (.own 5 0 0 (po7.2.2.2.2.2.length) none))), (5, .one (.c (.d (.v (.int .i64 ((o5_6 : Int)))))))], [some (.box [.d (.sl (po7.1.map eS)), .own 1 0 0 (po7.2.1.length) none, .own 2 0 0 (po7.2.2.1.length) none, .own 3 0 0 (po7.2.2.2.1.length) none, .own 4 0 0 (po7.2.2.2.2.1.length) none]), some (.arr 0 1 (po7.2.1.map eS)), some (.arr 0 1 (po7.2.2.1.map eS)), some (.arr 0 2 (po7.2.2.2.1.map eWorkItem)), some (.arr 0 2 (po7.2.2.2.2.1.map eWorkItem)), some (.arr 0 1 (po7.2.2.2.2.2.map eS))]⟩) ?_ ?_
        · have h0o7 := h
          have h := ho
          clear ho
          simp only [VW.down, Nat.reduceEqDiff, reduceCtorEq, Nat.reduceAdd, Nat.reduceLeDiff, Nat.reduceLT, Nat.reduceBEq, Nat.reduceSub, EE.down]
          refine t_idxF (enc := eOp) (xs := x0) rfl rfl hxo5 rfl ?_
          simp only [VW.down, Nat.reduceEqDiff, reduceCtorEq, Nat.reduceAdd, Nat.reduceLeDiff, Nat.reduceLT, Nat.reduceBEq, Nat.reduceSub, EE.down]
          obtain ⟨t8, ht8, h⟩ := Option.bind_eq_some_iff.1 h
          refine callX_n [] (F11_ok ht8) ?_ ?_ ?_ ?_ ?_ ?_
          · first | rfl | simp [nrmA, nrmC, nrm, A1.ren, C.ren, rn, List.length_set]
          · simp [liveAll, A1.live, C.live]
          · rfl
          · decide
          · exact trivial
          simp only [VW.down, Nat.reduceEqDiff, reduceCtorEq, Nat.reduceAdd, Nat.reduceLeDiff, Nat.reduceLT, Nat.reduceBEq, Nat.reduceSub, EE.down]
          refine kD_new (by simp [wrs, allW, hset]) ?_
          simp only [VW.down, Nat.reduceEqDiff, reduceCtorEq, Nat.reduceAdd, Nat.reduceLeDiff, Nat.reduceLT, Nat.reduceBEq, Nat.reduceSub, EE.down]
          refine kD_new (by simp [wrs, allW, hset]) ?_
          simp only [VW.down, Nat.reduceEqDiff, reduceCtorEq, Nat.reduceAdd, Nat.reduceLeDiff, Nat.reduceLT, Nat.reduceBEq, Nat.reduceSub, EE.down]
          obtain ⟨o9, ho, h⟩ := Option.bind_eq_some_iff.1 h
          refine cutS (fun s => s = ⟨[(0, .one (.c (.d (.sl (x0.map eOp))))), (3, .one (.c (.pt 0 0))), (4, .one (.c (.own 5 0 0 (o5_5.length) none))), (5, .one (.c (.d (.v (.int .i64 ((o5_6 : Int))))))), (7, .one (.c (.d (.v (.string t8.2.2.2.2.2.1))))), (8, .one (.c (.d (.v (.bool t8.2.2.2.2.2.2))))), (35, .one (.c (.d (.v (.bool o9)))))], [some (.box [.d (.sl (t8.1.map eS)), .own 1 0 0 (t8.2.1.length) none, .own 2 0 0 (t8.2.2.1.length) none, .own 3 0 0 (t8.2.2.2.1.length) none, .own 4 0 0 (t8.2.2.2.2.1.length) none]), some (.arr 0 1 (t8.2.1.map eS)), some (.arr 0 1 (t8.2.2.1.map eS)), some (.arr 0 2 (t8.2.2.2.1.map eWorkItem)), some (.arr 0 2 (t8.2.2.2.2.1.map eWorkItem)), some (.arr 0 1 (o5_5.map eS))]⟩) ?_ ?_
          · have h := ho
            clear ho
            simp only [VW.down, Nat.reduceEqDiff, reduceCtorEq, Nat.reduceAdd, Nat.reduceLeDiff, Nat.reduceLT, Nat.reduceBEq, Nat.reduceSub, EE.down]
            refine guardSB (fun g10 => ?_) (fun g10 => ?_)
            · have h := (if_pos g10).symm.trans h
              simp only [VW.down, Nat.reduceEqDiff, reduceCtorEq, Nat.reduceAdd, Nat.reduceLeDiff, Nat.reduceLT, Nat.reduceBEq, Nat.reduceSub, EE.down]
              obtain ⟨t11, ht11, h⟩ := Option.bind_eq_some_iff.1 h
              refine callX_bor (F14_ok ht11) (by simp only [borAs, bors, hp, List.getElem?_cons_zero, List.getElem?_cons_succ, Option.join_some, List.drop_zero, bor_full', true_and, Nat.zero_add, List.length_map, Nat.le_refl, nrm, List.length_cons, List.length_nil, Nat.reduceAdd, Nat.reduceLeDiff, List.take_succ_cons, List.take_zero, List.take_nil, List.map_cons, List.map_nil, List.length_set, EE.down]) rfl ?_
              simp only [VW.down, Nat.reduceEqDiff, reduceCtorEq, Nat.reduceAdd, Nat.reduceLeDiff, Nat.reduceLT, Nat.reduceBEq, Nat.reduceSub, EE.down]
              obtain rfl := Option.some.inj h
              exact eM [some 0, some 2, some 3, some 4, some 5, some 1] rfl
            · have h := (if_neg g10).symm.trans h
              simp only [VW.down, Nat.reduceEqDiff, reduceCtorEq, Nat.reduceAdd, Nat.reduceLeDiff, Nat.reduceLT, Nat.reduceBEq, Nat.reduceSub, EE.down]
              obtain rfl := Option.some.inj h
              exact eM [some 0, some 2, some 3, some 4, some 5, some 1] rfl
          · rintro _ rfl
            clear ho
            simp only [VW.down, Nat.reduceEqDiff, reduceCtorEq, Nat.reduceAdd, Nat.reduceLeDiff, Nat.reduceLT, Nat.reduceBEq, Nat.reduceSub, EE.down]
            refine condB (fun c12 => ?_) (fun c12 => ?_)
            · have h := (if_pos c12).symm.trans h
              simp only [VW.down, Nat.reduceEqDiff, reduceCtorEq, Nat.reduceAdd, Nat.reduceLeDiff, Nat.reduceLT, Nat.reduceBEq, Nat.reduceSub, EE.down]
              obtain ⟨fh0o7, hfh0o7, rfl⟩ := Option.map_eq_some_iff.1 h
              have h := hfh0o7.trans h0o7
              obtain ⟨fh0o5, hfh0o5, rfl⟩ := Option.map_eq_some_iff.1 h
              have h := hfh0o5.trans h0o5
              obtain rfl := Option.some.inj h
              exact eF []
            · have h := (if_neg c12).symm.trans h
              simp only [VW.down, Nat.reduceEqDiff, reduceCtorEq, Nat.reduceAdd, Nat.reduceLeDiff, Nat.reduceLT, Nat.reduceBEq, Nat.reduceSub, EE.down]
              obtain ⟨o13, ho, h⟩ := Option.bind_eq_some_iff.1 h
              refine cutS (fun s => s = ⟨[(0, .one (.c (.d (.sl (x0.map eOp))))), (3, .one (.c (.pt 0 0))), (4, .one (.c (.own 5 0 0 (o13.length) none))), (5, .one (.c (.d (.v (.int .i64 ((o5_6 : Int)))))))], [some (.box [.d (.sl (t8.1.map eS)), .own 1 0 0 (t8.2.1.length) none, .own 2 0 0 (t8.2.2.1.length) none, .own 3 0 0 (t8.2.2.2.1.length) none, .own 4 0 0 (t8.2.2.2.2.1.length) none]), some (.arr 0 1 (t8.2.1.map eS)), some (.arr 0 1 (t8.2.2.1.map eS)), some (.arr 0 2 (t8.2.2.2.1.map eWorkItem)), some (.arr 0 2 (t8.2.2.2.2.1.map eWorkItem)), some (.arr 0 1 (o13.map eS))]⟩) ?_ ?_
              · have h := ho
                clear ho
                simp only [VW.down, Nat.reduceEqDiff, reduceCtorEq, Nat.reduceAdd, Nat.reduceLeDiff, Nat.reduceLT, Nat.reduceBEq, Nat.reduceSub, EE.down]
                refine condB (fun c14 => ?_) (fun c14 => ?_)
                · have h := (if_pos c14).symm.trans h
                  simp only [VW.down, Nat.reduceEqDiff, reduceCtorEq, Nat.reduceAdd, Nat.reduceLeDiff, Nat.reduceLT, Nat.reduceBEq, Nat.reduceSub, EE.down]
                  refine t_bslice (enc := eS) (ys := [t8.2.2.2.2.2.1]) rfl rfl (by simp [A1.cells]) rfl ?_
                  simp only [VW.down, Nat.reduceEqDiff, reduceCtorEq, Nat.reduceAdd, Nat.reduceLeDiff, Nat.reduceLT, Nat.reduceBEq, Nat.reduceSub, EE.down]
                  obtain ⟨a15, ha15, h⟩ := Option.bind_eq_some_iff.1 h
                  refine t_app (enc := eS) (xs := o5_5) rfl rfl (by first | rfl | simp only [List.length_set] | exact (clrL_len (slI_len (by assumption))).symm) rfl (rows_full (enc := eS) (by first | rfl | simp only [List.length_set] | exact (clrL_len (slI_len (by assumption))).symm) rfl) ha15 ?_
                  simp only [VW.down, Nat.reduceEqDiff, reduceCtorEq, Nat.reduceAdd, Nat.reduceLeDiff, Nat.reduceLT, Nat.reduceBEq, Nat.reduceSub, EE.down]
                  obtain rfl := Option.some.inj h
                  exact eM [some 0, some 1, some 2, some 3, some 4, some 5] rfl
                · have h := (if_neg c14).symm.trans h
                  simp only [VW.down, Nat.reduceEqDiff, reduceCtorEq, Nat.reduceAdd, Nat.reduceLeDiff, Nat.reduceLT, Nat.reduceBEq, Nat.reduceSub, EE.down]
                  obtain rfl := Option.some.inj h
                  exact eM [some 0, some 1, some 2, some 3, some 4, some 5] rfl
              · rintro _ rfl
                clear ho
                simp only [VW.down, Nat.reduceEqDiff, reduceCtorEq, Nat.reduceAdd, Nat.reduceLeDiff, Nat.reduceLT, Nat.reduceBEq, Nat.reduceSub, EE.down]
                refine t_idxF (enc := eOp) (xs := x0) rfl rfl hxo5 rfl ?_
                simp only [VW.down, Nat.reduceEqDiff, reduceCtorEq, Nat.reduceAdd, Nat.reduceLeDiff, Nat.reduceLT, Nat.reduceBEq, Nat.reduceSub, EE.down]
                refine ⟨by omega, ?_⟩
                try simp only [VW.down, Nat.reduceEqDiff, reduceCtorEq, Nat.reduceAdd, Nat.reduceLeDiff, Nat.reduceLT, Nat.reduceBEq, Nat.reduceSub, EE.down]
                refine condS (fun c16 => ?_) (fun c16 => ?_)
                · have h := (if_pos c16).symm.trans h
                  simp only [VW.down, Nat.reduceEqDiff, reduceCtorEq, Nat.reduceAdd, Nat.reduceLeDiff, Nat.reduceLT, Nat.reduceBEq, Nat.reduceSub, EE.down]
                  refine t_idxF (enc := eOp) (xs := x0) rfl rfl hxo5 rfl ?_
                  simp only [VW.down, Nat.reduceEqDiff, reduceCtorEq, Nat.reduceAdd, Nat.reduceLeDiff, Nat.reduceLT, Nat.reduceBEq, Nat.reduceSub, EE.down]
                  refine t_bslice (enc := eS) (ys := [xo5.Key]) rfl rfl (by simp [A1.cells]) rfl ?_
                  simp only [VW.down, Nat.reduceEqDiff, reduceCtorEq, Nat.reduceAdd, Nat.reduceLeDiff, Nat.reduceLT, Nat.reduceBEq, Nat.reduceSub, EE.down]
                  obtain ⟨t17, ht17, h⟩ := Option.bind_eq_some_iff.1 h
                  refine callX_borF (F18_ok ht17) (by simp only [borAs, bors, hp, List.getElem?_cons_zero, List.getElem?_cons_succ, Option.join_some, List.drop_zero, bor_full', true_and, Nat.zero_add, List.length_map, Nat.le_refl, nrm, List.length_cons, List.length_nil, Nat.reduceAdd, Nat.reduceLeDiff, List.take_succ_cons, List.take_zero, List.take_nil, List.map_cons, List.map_nil, List.length_set, EE.down]) rfl ⟨flat_rows (enc := eS) (fun _ => rfl) _, trivial⟩ ?_
                  simp only [VW.down, Nat.reduceEqDiff, reduceCtorEq, Nat.reduceAdd, Nat.reduceLeDiff, Nat.reduceLT, Nat.reduceBEq, Nat.reduceSub, EE.down]
                  obtain rfl := Option.some.inj h
                  exact eM [some 0, some 1, some 2, some 3, some 4, some 7] ⟨_, rfl, rfl⟩
                · have h := (if_neg c16).symm.trans h
                  simp only [VW.down, Nat.reduceEqDiff, reduceCtorEq, Nat.reduceAdd, Nat.reduceLeDiff, Nat.reduceLT, Nat.reduceBEq, Nat.reduceSub, EE.down]
                  obtain rfl := Option.some.inj h
                  exact eM [some 0, some 1, some 2, some 3, some 4, some 5] ⟨_, rfl, rfl⟩
        · rintro _ ⟨po7, rfl, rfl⟩
          clear ho
          dsimp only at h
          simp only [VW.down, Nat.reduceEqDiff, reduceCtorEq, Nat.reduceAdd, Nat.reduceLeDiff, Nat.reduceLT, Nat.reduceBEq, Nat.reduceSub, EE.down]
          rw [wrapN (by omega)]
          exact eL' (x0.length - (o5_6 + 1)) [some 0, some 5] ⟨o5_6 + 1, po7.1, po7.2.1, po7.2.2.1, po7.2.2.2.1, po7.2.2.2.2.1, po7.2.2.2.2.2, ⟨by omega, rfl⟩, rfl, h⟩ (by omega)
      · rw [countN c6, F6_l5] at h
        simp only [VW.down, Nat.reduceEqDiff, reduceCtorEq, Nat.reduceAdd, Nat.reduceLeDiff, Nat.reduceLT, Nat.reduceBEq, Nat.reduceSub, EE.down]
        obtain rfl := Option.some.inj h
        exact eM [] ⟨_, rfl, rfl⟩
    · rintro _ ⟨po5, rfl, rfl⟩
      clear ho
      dsimp only at h
      simp only [VW.down, Nat.reduceEqDiff, reduceCtorEq, Nat.reduceAdd, Nat.reduceLeDiff, Nat.reduceLT, Nat.reduceBEq, Nat.reduceSub, EE.down]
      obtain ⟨t19, ht19, h⟩ := Option.bind_eq_some_iff.1 h
      refine callX_n [] (F8_ok ht19) ?_ ?_ ?_ ?_ ?_ ?_
      · first | rfl | simp [nrmA, nrmC, nrm, A1.ren, C.ren, rn, List.length_set]
      · simp [liveAll, A1.live, C.live]
      · rfl
      · decide
      · exact trivial
      simp only [VW.down, Nat.reduceEqDiff, reduceCtorEq, Nat.reduceAdd, Nat.reduceLeDiff, Nat.reduceLT, Nat.reduceBEq, Nat.reduceSub, EE.down]
      obtain rfl := Option.some.inj h
      exact eF []

end Go.Proofs.Ytpgonamdmlgifaa
