/- Each Go function as a function over typed data, and its walk. -/
import Derived.Test.YtadhmlfnfgpjjaaBX2
namespace Go.Proofs.Ytadhmlfnfgpjjaa
open Go Go.Fw Go.Shelf
set_option maxRecDepth 100000
set_option maxHeartbeats 4000000
set_option linter.unusedSimpArgs false
set_option linter.unusedVariables false
/- orchestrator/orchestratorref03.Get -/
def F18_l1 (x1 : ByteArray) : List Label → Nat → Option ((ByteArray × Bool) ⊕ (Unit))
  | [], o1_0 => some (Sum.inr (()))
  | xo1 :: xs, o1_0 => (if xo1.Key = x1 then (some ((xo1.Value, true))).map Sum.inl else F18_l1 x1 xs (o1_0 + 1))
def F18 (x0 : (List Label)) (x1 : ByteArray) : Option (ByteArray × Bool) := (((ck (0 ≤ x0.length ∧ x0.length ≤ 4294967290)).bind fun u4 => F18_l1 x1 x0 0 : Option ((ByteArray × Bool) ⊕ (Unit))).bind fun o1 => match o1 with | Sum.inl f => some f | Sum.inr po1 => some (((⟨#[]⟩ : ByteArray), false)))
def a18 : AFn := ⟨25, [(.tmp 4), (.tmp 5)],
 (.seq (.reg [⟨(some 4), none, .mv (kS ⟨#[]⟩), [], (.new [])⟩,
   ⟨(some 5), none, .mv (kB false), [], (.new [])⟩])
 (.seq (.seq (.reg [⟨(some 6), none, .mv (kI 0), [], (.new [])⟩])
 (.sem (.block 0 (.loop (.seq (.seq (.reg [⟨(some 7), none, .mv (.t 6), [], (.new [])⟩,
   ⟨(some 8), none, .mv (.t 0), [], (.new [])⟩,
   ⟨(some 9), none, .len (.t 8), [], (.new [])⟩,
   ⟨(some 10), none, .bin .lss (.t 7) (.t 9), [], (.new [])⟩])
 (.cond (.t 10)
 .skip
 (.exit 0)))
 (.seq (.block 1 (.seq (.reg [⟨(some 13), none, .mv (.t 0), [], (.new [])⟩,
   ⟨(some 14), none, .mv (.t 6), [], (.new [])⟩,
   ⟨(some 15), none, .indexA 2 (.t 13) (.t 14), [], (.new [])⟩,
   ⟨(some 16), none, .fieldA 0 (.t 15), [], (.new [])⟩,
   ⟨(some 17), none, .load none (.t 16), [], (.new [])⟩,
   ⟨(some 18), none, .mv (.t 1), [], (.new [])⟩,
   ⟨(some 19), none, .bin .eql (.t 17) (.t 18), [], (.new [])⟩])
 (.cond (.t 19)
 (.seq (.reg [⟨(some 20), none, .mv (.t 0), [], (.new [])⟩,
   ⟨(some 21), none, .mv (.t 6), [], (.new [])⟩,
   ⟨(some 22), none, .indexA 2 (.t 20) (.t 21), [], (.new [])⟩,
   ⟨(some 23), none, .fieldA 1 (.t 22), [], (.new [])⟩,
   ⟨(some 24), none, .load none (.t 23), [], (.new [])⟩,
   ⟨(some 4), none, .mv (.t 24), [], (.new [])⟩,
   ⟨(some 5), none, .mv (kB true), [], (.new [])⟩])
 .ret)
 .skip)))
 (.reg [⟨(some 11), none, .mv (.t 6), [], (.new [])⟩,
   ⟨(some 12), none, .bin .add (.t 11) (kI 1), [], (.new [])⟩,
   ⟨(some 6), none, .mv (.t 12), [], (.new [])⟩])))))))
 (.seq (.reg [⟨(some 4), none, .mv (kS ⟨#[]⟩), [], (.new [])⟩,
   ⟨(some 5), none, .mv (kB false), [], (.new [])⟩])
 .ret)))⟩
theorem a18_ok : afn Try.prog 18 = some a18.er := by kernel_rfl
theorem F18_ok {x0 : (List Label)} {x1 : ByteArray} {r : ByteArray × Bool} (h : F18 x0 x1 = some r) : CallD Try.prog 18 [.c (.d (.sl (x0.map eLabel))), .c (.d (.v (.string x1)))] [] (tupV [.c (.d (.v (.string r.1))), .c (.d (.v (.bool r.2)))]) [] := by
  refine callS a18_ok (by simp [a18]) ?_
  rw [F18] at h
  simp only [a18, VW.down, Nat.reduceEqDiff, reduceCtorEq, Nat.reduceAdd, Nat.reduceLeDiff, Nat.reduceLT, Nat.reduceBEq, Nat.reduceSub, EE.down]
  obtain ⟨o1, ho, h⟩ := Option.bind_eq_some_iff.1 h
  refine cutS (fun s => ∃ po1, o1 = Sum.inr po1 ∧ s = ⟨[], []⟩) ?_ ?_
  · have h0o1 := h
    have h := ho
    clear ho
    obtain ⟨_, hk, h⟩ := Option.bind_eq_some_iff.1 h
    have hk := ck_some hk
    simp only [VW.down, Nat.reduceEqDiff, reduceCtorEq, Nat.reduceAdd, Nat.reduceLeDiff, Nat.reduceLT, Nat.reduceBEq, Nat.reduceSub, EE.down]
    refine bL (fun j s => ∃ (o1_0 : Nat), (o1_0 ≤ x0.length ∧ j = x0.length - o1_0) ∧ s = ⟨[(0, .one (.c (.d (.sl (x0.map eLabel))))), (1, .one (.c (.d (.v (.string x1))))), (6, .one (.c (.d (.v (.int .i64 ((o1_0 : Int)))))))], []⟩ ∧ F18_l1 x1 (x0.drop o1_0) o1_0 = some o1) (x0.length - 0) [] ⟨0, ⟨hk.1, rfl⟩, rfl, h⟩ ?_
    rintro _ _ ⟨o1_0, ⟨hi, rfl⟩, rfl, h⟩
    simp only [VW.down, Nat.reduceEqDiff, reduceCtorEq, Nat.reduceAdd, Nat.reduceLeDiff, Nat.reduceLT, Nat.reduceBEq, Nat.reduceSub, EE.down]
    refine condS (fun c2 => ?_) (fun c2 => ?_)
    · obtain ⟨xo1, hxo1, hd⟩ := countY (show (o1_0 : Int) < (x0.length : Int) from c2)
      rw [hd, F18_l1] at h
      simp only [VW.down, Nat.reduceEqDiff, reduceCtorEq, Nat.reduceAdd, Nat.reduceLeDiff, Nat.reduceLT, Nat.reduceBEq, Nat.reduceSub, EE.down]
      refine t_idxF (enc := eLabel) (xs := x0) rfl rfl hxo1 rfl ?_
      simp only [VW.down, Nat.reduceEqDiff, reduceCtorEq, Nat.reduceAdd, Nat.reduceLeDiff, Nat.reduceLT, Nat.reduceBEq, Nat.reduceSub, EE.down]
      refine condS (fun c3 => ?_) (fun c3 => ?_)
      · have h := (if_pos c3).symm.trans h
        simp only [VW.down, Nat.reduceEqDiff, reduceCtorEq, Nat.reduceAdd, Nat.reduceLeDiff, Nat.reduceLT, Nat.reduceBEq, Nat.reduceSub, EE.down]
        refine t_idxF (enc := eLabel) (xs := x0) rfl rfl hxo1 rfl ?_
        simp only [VW.down, Nat.reduceEqDiff, reduceCtorEq, Nat.reduceAdd, Nat.reduceLeDiff, Nat.reduceLT, Nat.reduceBEq, Nat.reduceSub, EE.down]
        obtain ⟨fh0o1, hfh0o1, rfl⟩ := Option.map_eq_some_iff.1 h
        have h := hfh0o1.trans h0o1
        obtain rfl := Option.some.inj h
        exact eF []
      · have h := (if_neg c3).symm.trans h
        simp only [VW.down, Nat.reduceEqDiff, reduceCtorEq, Nat.reduceAdd, Nat.reduceLeDiff, Nat.reduceLT, Nat.reduceBEq, Nat.reduceSub, EE.down]
        rw [wrapN (by omega)]
        exact eL' (x0.length - (o1_0 + 1)) [] ⟨o1_0 + 1, ⟨by omega, rfl⟩, rfl, h⟩ (by omega)
    · rw [countN (show ¬ ((o1_0 : Int) < (x0.length : Int)) from c2), F18_l1] at h
      simp only [VW.down, Nat.reduceEqDiff, reduceCtorEq, Nat.reduceAdd, Nat.reduceLeDiff, Nat.reduceLT, Nat.reduceBEq, Nat.reduceSub, EE.down]
      obtain rfl := Option.some.inj h
      exact eM [] ⟨_, rfl, rfl⟩
  · rintro _ ⟨po1, rfl, rfl⟩
    clear ho
    dsimp only at h
    simp only [VW.down, Nat.reduceEqDiff, reduceCtorEq, Nat.reduceAdd, Nat.reduceLeDiff, Nat.reduceLT, Nat.reduceBEq, Nat.reduceSub, EE.down]
    obtain rfl := Option.some.inj h
    exact eF []

/- orchestrator/orchestratorref03.With -/
def F21_l1 (x1 : ByteArray) : List Label → Nat → (List Label) → Option ((List Label))
  | [], o1_1, o1_0 => some o1_0
  | xo1 :: xs, o1_1, o1_0 => (((if ¬ (xo1.Key = x1) then (apI o1_0 ([xo1])).bind fun a5 => some a5 else some o1_0)).bind fun o3 => F21_l1 x1 xs (o1_1 + 1) o3)
def F21_l7 (o1 : (List Label)) (x1 : ByteArray) (x2 : ByteArray) : List Label → Nat → (List Label) → Bool → Option ((List Label) × Bool)
  | [], o7_2, o7_0, o7_1 => some ((o7_0, o7_1))
  | xo7 :: xs, o7_2, o7_0, o7_1 => (((((if (nb o7_1) = true then (rdI o1 ((o7_2 : Int))).bind fun y12 => some (nb (Op.bytesLess y12.Key.toList x1.toList || decide (y12.Key = x1))) else some false)).bind fun o10 => (if o10 = true then (apI o7_0 ([(⟨x1, x2⟩ : Label)])).bind fun a14 => some ((a14, true)) else some ((o7_0, o7_1))))).bind fun o9 => (rdI o1 ((o7_2 : Int))).bind fun y15 => (apI o9.1 ([y15])).bind fun a16 => F21_l7 o1 x1 x2 xs (o7_2 + 1) a16 o9.2)
def F21 (x0 : (List Label)) (x1 : ByteArray) (x2 : ByteArray) : Option ((List Label)) := (((ck (0 ≤ x0.length ∧ x0.length ≤ 4294967290)).bind fun u6 => F21_l1 x1 x0 0 ([])).bind fun o1 => (((ck (0 ≤ o1.length ∧ o1.length ≤ 4294967290)).bind fun u17 => F21_l7 o1 x1 x2 o1 0 ([]) false).bind fun o7 => (if (nb o7.2) = true then (apI o7.1 ([(⟨x1, x2⟩ : Label)])).bind fun a19 => some a19 else some o7.1)))
def a21 : AFn := ⟨71, [(.tmp 6)],
 (.seq (.reg [⟨(some 6), none, .mv kN, [], (.new [])⟩])
 (.seq (.reg [⟨(some 7), none, .mv kN, [], (.new [])⟩])
 (.seq (.seq (.reg [⟨(some 8), none, .mv (kI 0), [], (.new [])⟩])
 (.sem (.block 0 (.loop (.seq (.seq (.reg [⟨(some 12), none, .mv (.t 8), [], (.new [])⟩,
   ⟨(some 13), none, .mv (.t 0), [], (.new [])⟩,
   ⟨(some 14), none, .len (.t 13), [], (.new [])⟩,
   ⟨(some 15), none, .bin .lss (.t 12) (.t 14), [], (.new [])⟩])
 (.cond (.t 15)
 .skip
 (.exit 0)))
 (.seq (.sem (.block 1 (.seq (.reg [⟨(some 18), none, .mv (.t 0), [], (.new [])⟩,
   ⟨(some 19), none, .mv (.t 8), [], (.new [])⟩,
   ⟨(some 20), none, .indexA 2 (.t 18) (.t 19), [], (.new [])⟩,
   ⟨(some 21), none, .fieldA 0 (.t 20), [], (.new [])⟩,
   ⟨(some 22), none, .load none (.t 21), [], (.new [])⟩,
   ⟨(some 23), none, .mv (.t 1), [], (.new [])⟩,
   ⟨(some 24), none, .bin .neq (.t 22) (.t 23), [], (.new [])⟩])
 (.cond (.t 24)
 (.reg [⟨(some 25), none, .mv (.t 7), [], (.new [])⟩,
   ⟨(some 26), none, .mv (.t 0), [], (.new [])⟩,
   ⟨(some 27), none, .mv (.t 8), [], (.new [])⟩,
   ⟨(some 28), none, .indexA 2 (.t 26) (.t 27), [], (.new [])⟩,
   ⟨(some 29), none, .load (some 2) (.t 28), [], (.new [])⟩,
   ⟨(some 30), none, .bslice 2 [(.t 29)], [], (.new [])⟩,
   ⟨(some 31), none, .app 2 32 (.t 25) (.t 30), [], (.new [])⟩,
   ⟨(some 7), none, .mv (.t 31), [], (.new [])⟩])
 .skip))))
 (.reg [⟨(some 16), none, .mv (.t 8), [], (.new [])⟩,
   ⟨(some 17), none, .bin .add (.t 16) (kI 1), [], (.new [])⟩,
   ⟨(some 8), none, .mv (.t 17), [], (.new [])⟩])))))))
 (.seq (.reg [⟨(some 9), none, .mv kN, [], (.new [])⟩])
 (.seq (.reg [⟨(some 10), none, .mv (kB false), [], (.new [])⟩])
 (.seq (.seq (.reg [⟨(some 11), none, .mv (kI 0), [], (.new [])⟩])
 (.sem (.block 2 (.loop (.seq (.seq (.reg [⟨(some 32), none, .mv (.t 11), [], (.new [])⟩,
   ⟨(some 33), none, .mv (.t 7), [], (.new [])⟩,
   ⟨(some 34), none, .len (.t 33), [], (.new [])⟩,
   ⟨(some 35), none, .bin .lss (.t 32) (.t 34), [], (.new [])⟩])
 (.cond (.t 35)
 .skip
 (.exit 2)))
 (.seq (.block 3 (.seq (.sem (.seq (.sem (.reg [⟨(some 38), none, .mv (.t 10), [], (.new [])⟩,
   ⟨(some 39), none, .not (.t 38), [], (.new [])⟩,
   ⟨(some 40), none, .mv (.t 39), [], (.new [])⟩,
   ⟨(some 41), (some (40, true)), .mv (.t 7), [], (.new [])⟩,
   ⟨(some 42), (some (40, true)), .mv (.t 11), [], (.new [])⟩,
   ⟨(some 43), (some (40, true)), .indexA 2 (.t 41) (.t 42), [], (.new [])⟩,
   ⟨(some 44), (some (40, true)), .fieldA 0 (.t 43), [], (.new [])⟩,
   ⟨(some 45), (some (40, true)), .load none (.t 44), [], (.new [])⟩,
   ⟨(some 46), (some (40, true)), .mv (.t 1), [], (.new [])⟩,
   ⟨(some 47), (some (40, true)), .bin .gtr (.t 45) (.t 46), [], (.new [])⟩,
   ⟨(some 48), none, .pick (.t 40) (.t 47) (kB false), [], (.lone [41, 43, 44])⟩]))
 (.cond (.t 48)
 (.seq (.reg [⟨(some 49), none, .mv (.t 9), [], (.new [])⟩,
   ⟨(some 50), none, .mv (.t 1), [], (.new [])⟩,
   ⟨(some 51), none, .mv (.t 2), [], (.new [])⟩,
   ⟨(some 52), none, .build [.d (.v (.string ⟨#[]⟩)), .d (.v (.string ⟨#[]⟩))] [(0, 1, (.t 50)), (1, 1, (.t 51))], [], (.new [])⟩,
   ⟨(some 53), none, .bslice 2 [(.t 52)], [], (.new [])⟩,
   ⟨(some 54), none, .app 2 32 (.t 49) (.t 53), [], (.new [])⟩,
   ⟨(some 9), none, .mv (.t 54), [], (.new [])⟩])
 (.reg [⟨(some 10), none, .mv (kB true), [], (.new [])⟩]))
 .skip)))
 (.reg [⟨(some 55), none, .mv (.t 9), [], (.new [])⟩,
   ⟨(some 56), none, .mv (.t 7), [], (.new [])⟩,
   ⟨(some 57), none, .mv (.t 11), [], (.new [])⟩,
   ⟨(some 58), none, .indexA 2 (.t 56) (.t 57), [], (.new [])⟩,
   ⟨(some 59), none, .load (some 2) (.t 58), [], (.new [])⟩,
   ⟨(some 60), none, .bslice 2 [(.t 59)], [], (.new [])⟩,
   ⟨(some 61), none, .app 2 32 (.t 55) (.t 60), [], (.new [])⟩,
   ⟨(some 9), none, .mv (.t 61), [], (.new [])⟩])))
 (.reg [⟨(some 36), none, .mv (.t 11), [], (.new [])⟩,
   ⟨(some 37), none, .bin .add (.t 36) (kI 1), [], (.new [])⟩,
   ⟨(some 11), none, .mv (.t 37), [], (.new [])⟩])))))))
 (.seq (.seq (.reg [⟨(some 62), none, .mv (.t 10), [], (.new [])⟩,
   ⟨(some 63), none, .not (.t 62), [], (.new [])⟩])
 (.cond (.t 63)
 (.reg [⟨(some 64), none, .mv (.t 9), [], (.new [])⟩,
   ⟨(some 65), none, .mv (.t 1), [], (.new [])⟩,
   ⟨(some 66), none, .mv (.t 2), [], (.new [])⟩,
   ⟨(some 67), none, .build [.d (.v (.string ⟨#[]⟩)), .d (.v (.string ⟨#[]⟩))] [(0, 1, (.t 65)), (1, 1, (.t 66))], [], (.new [])⟩,
   ⟨(some 68), none, .bslice 2 [(.t 67)], [], (.new [])⟩,
   ⟨(some 69), none, .app 2 32 (.t 64) (.t 68), [], (.new [])⟩,
   ⟨(some 9), none, .mv (.t 69), [], (.new [])⟩])
 .skip))
 (.seq (.reg [⟨(some 70), none, .mv (.t 9), [], (.new [])⟩,
   ⟨(some 6), none, .mv (.t 70), [], (.new [])⟩])
 .ret))))))))⟩
theorem a21_ok : afn Try.prog 21 = some a21.er := by kernel_rfl
theorem F21_ok {x0 : (List Label)} {x1 : ByteArray} {x2 : ByteArray} {r : (List Label)} (h : F21 x0 x1 x2 = some r) : CallD Try.prog 21 [.c (.d (.sl (x0.map eLabel))), .c (.d (.v (.string x1))), .c (.d (.v (.string x2)))] [] (tupV [.c (.own 0 0 0 (r.length) none)]) [some (.arr 0 2 (r.map eLabel))] := by
  refine callS a21_ok (by simp [a21]) ?_
  rw [F21] at h
  simp only [a21, VW.down, Nat.reduceEqDiff, reduceCtorEq, Nat.reduceAdd, Nat.reduceLeDiff, Nat.reduceLT, Nat.reduceBEq, Nat.reduceSub, EE.down]
  obtain ⟨o1, ho, h⟩ := Option.bind_eq_some_iff.1 h
  refine cutS (fun s => s = ⟨[(1, .one (.c (.d (.v (.string x1))))), (2, .one (.c (.d (.v (.string x2))))), (7, .one (.c (.own 0 0 0 (o1.length) none)))], [some (.arr 0 2 (o1.map eLabel))]⟩) ?_ ?_
  · have h := ho
    clear ho
    obtain ⟨_, hk, h⟩ := Option.bind_eq_some_iff.1 h
    have hk := ck_some hk
    simp only [VW.down, Nat.reduceEqDiff, reduceCtorEq, Nat.reduceAdd, Nat.reduceLeDiff, Nat.reduceLT, Nat.reduceBEq, Nat.reduceSub, EE.down]
    refine bL (fun j s => ∃ (o1_1 : Nat) (o1_0 : List Label), (o1_1 ≤ x0.length ∧ j = x0.length - o1_1) ∧ s = ⟨[(0, .one (.c (.d (.sl (x0.map eLabel))))), (1, .one (.c (.d (.v (.string x1))))), (2, .one (.c (.d (.v (.string x2))))), (7, .one (.c (.own 0 0 0 (o1_0.length) none))), (8, .one (.c (.d (.v (.int .i64 ((o1_1 : Int)))))))], [some (.arr 0 2 (o1_0.map eLabel))]⟩ ∧ F21_l1 x1 (x0.drop o1_1) o1_1 o1_0 = some o1) (x0.length - 0) [none] ⟨0, [], ⟨hk.1, rfl⟩, rfl, h⟩ ?_
    rintro _ _ ⟨o1_1, o1_0, ⟨hi, rfl⟩, rfl, h⟩
    simp only [VW.down, Nat.reduceEqDiff, reduceCtorEq, Nat.reduceAdd, Nat.reduceLeDiff, Nat.reduceLT, Nat.reduceBEq, Nat.reduceSub, EE.down]
    refine condS (fun c2 => ?_) (fun c2 => ?_)
    · obtain ⟨xo1, hxo1, hd⟩ := countY (show (o1_1 : Int) < (x0.length : Int) from c2)
      rw [hd, F21_l1] at h
      simp only [VW.down, Nat.reduceEqDiff, reduceCtorEq, Nat.reduceAdd, Nat.reduceLeDiff, Nat.reduceLT, Nat.reduceBEq, Nat.reduceSub, EE.down]
      obtain ⟨o3, ho, h⟩ := Option.bind_eq_some_iff.1 h
      refine cutS (fun s => s = ⟨[(0, .one (.c (.d (.sl (x0.map eLabel))))), (1, .one (.c (.d (.v (.string x1))))), (2, .one (.c (.d (.v (.string x2))))), (7, .one (.c (.own 0 0 0 (o3.length) none))), (8, .one (.c (.d (.v (.int .i64 ((o1_1 : Int)))))))], [some (.arr 0 2 (o3.map eLabel))]⟩) ?_ ?_
      · have h := ho
        clear ho
        simp only [VW.down, Nat.reduceEqDiff, reduceCtorEq, Nat.reduceAdd, Nat.reduceLeDiff, Nat.reduceLT, Nat.reduceBEq, Nat.reduceSub, EE.down]
        refine t_idxF (enc := eLabel) (xs := x0) rfl rfl hxo1 rfl ?_
        simp only [VW.down, Nat.reduceEqDiff, reduceCtorEq, Nat.reduceAdd, Nat.reduceLeDiff, Nat.reduceLT, Nat.reduceBEq, Nat.reduceSub, EE.down]
        refine condS (fun c4 => ?_) (fun c4 => ?_)
        · have h := (if_pos c4).symm.trans h
          simp only [VW.down, Nat.reduceEqDiff, reduceCtorEq, Nat.reduceAdd, Nat.reduceLeDiff, Nat.reduceLT, Nat.reduceBEq, Nat.reduceSub, EE.down]
          refine t_idxF (enc := eLabel) (xs := x0) rfl rfl hxo1 rfl ?_
          simp only [VW.down, Nat.reduceEqDiff, reduceCtorEq, Nat.reduceAdd, Nat.reduceLeDiff, Nat.reduceLT, Nat.reduceBEq, Nat.reduceSub, EE.down]
          refine t_bslice (enc := eLabel) (ys := [xo1]) rfl rfl (by simp [A1.cells]) (by first | rfl | (simp only [List.drop_zero, take_mapL]; rfl)) ?_
          simp only [VW.down, Nat.reduceEqDiff, reduceCtorEq, Nat.reduceAdd, Nat.reduceLeDiff, Nat.reduceLT, Nat.reduceBEq, Nat.reduceSub, EE.down]
          obtain ⟨a5, ha5, h⟩ := Option.bind_eq_some_iff.1 h
          refine t_app (enc := eLabel) (xs := o1_0) rfl rfl (by first | rfl | simp only [List.length_set] | exact (clrL_len (slI_len (by assumption))).symm) rfl (rows_full (enc := eLabel) (by first | rfl | simp only [List.length_set] | exact (clrL_len (slI_len (by assumption))).symm) rfl) ha5 ?_
          simp only [VW.down, Nat.reduceEqDiff, reduceCtorEq, Nat.reduceAdd, Nat.reduceLeDiff, Nat.reduceLT, Nat.reduceBEq, Nat.reduceSub, EE.down]
          obtain rfl := Option.some.inj h
          exact eM [some 0] rfl
        · have h := (if_neg c4).symm.trans h
          simp only [VW.down, Nat.reduceEqDiff, reduceCtorEq, Nat.reduceAdd, Nat.reduceLeDiff, Nat.reduceLT, Nat.reduceBEq, Nat.reduceSub, EE.down]
          obtain rfl := Option.some.inj h
          exact eM [some 0] rfl
      · rintro _ rfl
        clear ho
        simp only [VW.down, Nat.reduceEqDiff, reduceCtorEq, Nat.reduceAdd, Nat.reduceLeDiff, Nat.reduceLT, Nat.reduceBEq, Nat.reduceSub, EE.down]
        rw [wrapN (by omega)]
        exact eL' (x0.length - (o1_1 + 1)) [some 0] ⟨o1_1 + 1, o3, ⟨by omega, rfl⟩, rfl, h⟩ (by omega)
    · rw [countN (show ¬ ((o1_1 : Int) < (x0.length : Int)) from c2), F21_l1] at h
      simp only [VW.down, Nat.reduceEqDiff, reduceCtorEq, Nat.reduceAdd, Nat.reduceLeDiff, Nat.reduceLT, Nat.reduceBEq, Nat.reduceSub, EE.down]
      obtain rfl := Option.some.inj h
      exact eM [some 0] rfl
  · rintro _ rfl
    clear ho
    simp only [VW.down, Nat.reduceEqDiff, reduceCtorEq, Nat.reduceAdd, Nat.reduceLeDiff, Nat.reduceLT, Nat.reduceBEq, Nat.reduceSub, EE.down]
    obtain ⟨o7, ho, h⟩ := Option.bind_eq_some_iff.1 h
    refine cutS (fun s => s = ⟨[(1, .one (.c (.d (.v (.string x1))))), (2, .one (.c (.d (.v (.string x2))))), (9, .one (.c (.own 0 0 0 (o7.1.length) none))), (10, .one (.c (.d (.v (.bool o7.2)))))], [some (.arr 0 2 (o7.1.map eLabel))]⟩) ?_ ?_
    · have h := ho
      clear ho
      obtain ⟨_, hk, h⟩ := Option.bind_eq_some_iff.1 h
      have hk := ck_some hk
      simp only [VW.down, Nat.reduceEqDiff, reduceCtorEq, Nat.reduceAdd, Nat.reduceLeDiff, Nat.reduceLT, Nat.reduceBEq, Nat.reduceSub, EE.down]
      refine bL (fun j s => ∃ (o7_2 : Nat) (o7_0 : List Label) (o7_1 : Bool), (o7_2 ≤ o1.length ∧ j = o1.length - o7_2) ∧ s = ⟨[(1, .one (.c (.d (.v (.string x1))))), (2, .one (.c (.d (.v (.string x2))))), (7, .one (.c (.own 0 0 0 (o1.length) none))), (9, .one (.c (.own 1 0 0 (o7_0.length) none))), (10, .one (.c (.d (.v (.bool o7_1))))), (11, .one (.c (.d (.v (.int .i64 ((o7_2 : Int)))))))], [some (.arr 0 2 (o1.map eLabel)), some (.arr 0 2 (o7_0.map eLabel))]⟩ ∧ F21_l7 o1 x1 x2 (o1.drop o7_2) o7_2 o7_0 o7_1 = some o7) (o1.length - 0) [some 0, none] ⟨0, [], false, ⟨hk.1, rfl⟩, rfl, h⟩ ?_
      rintro _ _ ⟨o7_2, o7_0, o7_1, ⟨hi, rfl⟩, rfl, h⟩
      simp only [VW.down, Nat.reduceEqDiff, reduceCtorEq, Nat.reduceAdd, Nat.reduceLeDiff, Nat.reduceLT, Nat.reduceBEq, Nat.reduceSub, EE.down]
      refine condS (fun c8 => ?_) (fun c8 => ?_)
      · obtain ⟨xo7, hxo7, hd⟩ := countY (show (o7_2 : Int) < (o1.length : Int) from c8)
        rw [hd, F21_l7] at h
        simp only [VW.down, Nat.reduceEqDiff, reduceCtorEq, Nat.reduceAdd, Nat.reduceLeDiff, Nat.reduceLT, Nat.reduceBEq, Nat.reduceSub, EE.down]
        obtain ⟨o9, ho, h⟩ := Option.bind_eq_some_iff.1 h
        refine cutS (fun s => s = ⟨[(1, .one (.c (.d (.v (.string x1))))), (2, .one (.c (.d (.v (.string x2))))), (7, .one (.c (.own 0 0 0 (o1.length) none))), (9, .one (.c (.own 1 0 0 (o9.1.length) none))), (10, .one (.c (.d (.v (.bool o9.2))))), (11, .one (.c (.d (.v (.int .i64 ((o7_2 : Int)))))))], [some (.arr 0 2 (o1.map eLabel)), some (.arr 0 2 (o9.1.map eLabel))]⟩) ?_ ?_
        · have h := ho
          clear ho
          simp only [VW.down, Nat.reduceEqDiff, reduceCtorEq, Nat.reduceAdd, Nat.reduceLeDiff, Nat.reduceLT, Nat.reduceBEq, Nat.reduceSub, EE.down]
          obtain ⟨o10, ho, h⟩ := Option.bind_eq_some_iff.1 h
          refine cutS (fun s => s = ⟨[(1, .one (.c (.d (.v (.string x1))))), (2, .one (.c (.d (.v (.string x2))))), (7, .one (.c (.own 0 0 0 (o1.length) none))), (9, .one (.c (.own 1 0 0 (o7_0.length) none))), (10, .one (.c (.d (.v (.bool o7_1))))), (11, .one (.c (.d (.v (.int .i64 ((o7_2 : Int))))))), (48, .one (.c (.d (.v (.bool o10)))))], [some (.arr 0 2 (o1.map eLabel)), some (.arr 0 2 (o7_0.map eLabel))]⟩) ?_ ?_
          · have h := ho
            clear ho
            simp only [VW.down, Nat.reduceEqDiff, reduceCtorEq, Nat.reduceAdd, Nat.reduceLeDiff, Nat.reduceLT, Nat.reduceBEq, Nat.reduceSub, EE.down]
            refine guardSB (fun g11 => ?_) (fun g11 => ?_)
            · have h := (if_pos g11).symm.trans h
              simp only [VW.down, Nat.reduceEqDiff, reduceCtorEq, Nat.reduceAdd, Nat.reduceLeDiff, Nat.reduceLT, Nat.reduceBEq, Nat.reduceSub, EE.down]
              obtain ⟨y12, hy12, h⟩ := Option.bind_eq_some_iff.1 h
              refine t_idxO (enc := eLabel) (xs := o1) rfl rfl rfl (by first | rfl | simp only [List.length_set] | exact (clrL_len (slI_len (by assumption))).symm) hy12 ?_
              simp only [VW.down, Nat.reduceEqDiff, reduceCtorEq, Nat.reduceAdd, Nat.reduceLeDiff, Nat.reduceLT, Nat.reduceBEq, Nat.reduceSub, EE.down]
              refine LdRow.rd (rdI_some hy12).2.1 ?_
              simp only [VW.down, Nat.reduceEqDiff, reduceCtorEq, Nat.reduceAdd, Nat.reduceLeDiff, Nat.reduceLT, Nat.reduceBEq, Nat.reduceSub, EE.down]
              obtain rfl := Option.some.inj h
              exact eM [some 0, some 1] rfl
            · have h := (if_neg g11).symm.trans h
              simp only [VW.down, Nat.reduceEqDiff, reduceCtorEq, Nat.reduceAdd, Nat.reduceLeDiff, Nat.reduceLT, Nat.reduceBEq, Nat.reduceSub, EE.down]
              obtain rfl := Option.some.inj h
              exact eM [some 0, some 1] rfl
          · rintro _ rfl
            clear ho
            simp only [VW.down, Nat.reduceEqDiff, reduceCtorEq, Nat.reduceAdd, Nat.reduceLeDiff, Nat.reduceLT, Nat.reduceBEq, Nat.reduceSub, EE.down]
            refine condB (fun c13 => ?_) (fun c13 => ?_)
            · have h := (if_pos c13).symm.trans h
              simp only [VW.down, Nat.reduceEqDiff, reduceCtorEq, Nat.reduceAdd, Nat.reduceLeDiff, Nat.reduceLT, Nat.reduceBEq, Nat.reduceSub, EE.down]
              refine t_bslice (enc := eLabel) (ys := [(⟨x1, x2⟩ : Label)]) rfl rfl (by simp [A1.cells]) (by first | rfl | (simp only [List.drop_zero, take_mapL]; rfl)) ?_
              simp only [VW.down, Nat.reduceEqDiff, reduceCtorEq, Nat.reduceAdd, Nat.reduceLeDiff, Nat.reduceLT, Nat.reduceBEq, Nat.reduceSub, EE.down]
              obtain ⟨a14, ha14, h⟩ := Option.bind_eq_some_iff.1 h
              refine t_app (enc := eLabel) (xs := o7_0) rfl rfl (by first | rfl | simp only [List.length_set] | exact (clrL_len (slI_len (by assumption))).symm) rfl (rows_full (enc := eLabel) (by first | rfl | simp only [List.length_set] | exact (clrL_len (slI_len (by assumption))).symm) rfl) ha14 ?_
              simp only [VW.down, Nat.reduceEqDiff, reduceCtorEq, Nat.reduceAdd, Nat.reduceLeDiff, Nat.reduceLT, Nat.reduceBEq, Nat.reduceSub, EE.down]
              obtain rfl := Option.some.inj h
              exact eM [some 0, some 1] rfl
            · have h := (if_neg c13).symm.trans h
              simp only [VW.down, Nat.reduceEqDiff, reduceCtorEq, Nat.reduceAdd, Nat.reduceLeDiff, Nat.reduceLT, Nat.reduceBEq, Nat.reduceSub, EE.down]
              obtain rfl := Option.some.inj h
              exact eM [some 0, some 1] rfl
        · rintro _ rfl
          clear ho
          simp only [VW.down, Nat.reduceEqDiff, reduceCtorEq, Nat.reduceAdd, Nat.reduceLeDiff, Nat.reduceLT, Nat.reduceBEq, Nat.reduceSub, EE.down]
          obtain ⟨y15, hy15, h⟩ := Option.bind_eq_some_iff.1 h
          refine t_idxO (enc := eLabel) (xs := o1) rfl rfl rfl (by first | rfl | simp only [List.length_set] | exact (clrL_len (slI_len (by assumption))).symm) hy15 ?_
          simp only [VW.down, Nat.reduceEqDiff, reduceCtorEq, Nat.reduceAdd, Nat.reduceLeDiff, Nat.reduceLT, Nat.reduceBEq, Nat.reduceSub, EE.down]
          refine LdRow.rd (rdI_some hy15).2.1 ?_
          simp only [VW.down, Nat.reduceEqDiff, reduceCtorEq, Nat.reduceAdd, Nat.reduceLeDiff, Nat.reduceLT, Nat.reduceBEq, Nat.reduceSub, EE.down]
          refine t_bslice (enc := eLabel) (ys := [y15]) rfl rfl (by simp [A1.cells]) (by first | rfl | (simp only [List.drop_zero, take_mapL]; rfl)) ?_
          simp only [VW.down, Nat.reduceEqDiff, reduceCtorEq, Nat.reduceAdd, Nat.reduceLeDiff, Nat.reduceLT, Nat.reduceBEq, Nat.reduceSub, EE.down]
          obtain ⟨a16, ha16, h⟩ := Option.bind_eq_some_iff.1 h
          refine t_app (enc := eLabel) (xs := o9.1) rfl rfl (by first | rfl | simp only [List.length_set] | exact (clrL_len (slI_len (by assumption))).symm) rfl (rows_full (enc := eLabel) (by first | rfl | simp only [List.length_set] | exact (clrL_len (slI_len (by assumption))).symm) rfl) ha16 ?_
          simp only [VW.down, Nat.reduceEqDiff, reduceCtorEq, Nat.reduceAdd, Nat.reduceLeDiff, Nat.reduceLT, Nat.reduceBEq, Nat.reduceSub, EE.down]
          rw [wrapN (by omega)]
          exact eL' (o1.length - (o7_2 + 1)) [some 0, some 1] ⟨o7_2 + 1, a16, o9.2, ⟨by omega, rfl⟩, rfl, h⟩ (by omega)
      · rw [countN (show ¬ ((o7_2 : Int) < (o1.length : Int)) from c8), F21_l7] at h
        simp only [VW.down, Nat.reduceEqDiff, reduceCtorEq, Nat.reduceAdd, Nat.reduceLeDiff, Nat.reduceLT, Nat.reduceBEq, Nat.reduceSub, EE.down]
        obtain rfl := Option.some.inj h
        exact eM [some 1] rfl
    · rintro _ rfl
      clear ho
      simp only [VW.down, Nat.reduceEqDiff, reduceCtorEq, Nat.reduceAdd, Nat.reduceLeDiff, Nat.reduceLT, Nat.reduceBEq, Nat.reduceSub, EE.down]
      refine condB (fun c18 => ?_) (fun c18 => ?_)
      · have h := (if_pos c18).symm.trans h
        simp only [VW.down, Nat.reduceEqDiff, reduceCtorEq, Nat.reduceAdd, Nat.reduceLeDiff, Nat.reduceLT, Nat.reduceBEq, Nat.reduceSub, EE.down]
        refine t_bslice (enc := eLabel) (ys := [(⟨x1, x2⟩ : Label)]) rfl rfl (by simp [A1.cells]) (by first | rfl | (simp only [List.drop_zero, take_mapL]; rfl)) ?_
        simp only [VW.down, Nat.reduceEqDiff, reduceCtorEq, Nat.reduceAdd, Nat.reduceLeDiff, Nat.reduceLT, Nat.reduceBEq, Nat.reduceSub, EE.down]
        obtain ⟨a19, ha19, h⟩ := Option.bind_eq_some_iff.1 h
        refine t_app (enc := eLabel) (xs := o7.1) rfl rfl (by first | rfl | simp only [List.length_set] | exact (clrL_len (slI_len (by assumption))).symm) rfl (rows_full (enc := eLabel) (by first | rfl | simp only [List.length_set] | exact (clrL_len (slI_len (by assumption))).symm) rfl) ha19 ?_
        simp only [VW.down, Nat.reduceEqDiff, reduceCtorEq, Nat.reduceAdd, Nat.reduceLeDiff, Nat.reduceLT, Nat.reduceBEq, Nat.reduceSub, EE.down]
        obtain rfl := Option.some.inj h
        exact eF [some 0]
      · have h := (if_neg c18).symm.trans h
        simp only [VW.down, Nat.reduceEqDiff, reduceCtorEq, Nat.reduceAdd, Nat.reduceLeDiff, Nat.reduceLT, Nat.reduceBEq, Nat.reduceSub, EE.down]
        obtain rfl := Option.some.inj h
        exact eF [some 0]

/- orchestrator/orchestratorref03.Same -/
def F19_l2 (x1 : (List Label)) : List Label → Nat → Option ((Bool) ⊕ (Unit))
  | [], o2_0 => some (Sum.inr (()))
  | xo2 :: xs, o2_0 => (rdI x1 ((o2_0 : Int))).bind fun y4 => (if ¬ (xo2.Key = y4.Key ∧ xo2.Value = y4.Value) then (some false).map Sum.inl else F19_l2 x1 xs (o2_0 + 1))
def F19 (x0 : (List Label)) (x1 : (List Label)) : Option (Bool) := (if ¬ ((x0.length : Int) = (x1.length : Int)) then some false else (((ck (0 ≤ x0.length ∧ x0.length ≤ 4294967290)).bind fun u6 => F19_l2 x1 x0 0 : Option ((Bool) ⊕ (Unit))).bind fun o2 => match o2 with | Sum.inl f => some f | Sum.inr po2 => some true))
def a19 : AFn := ⟨26, [(.tmp 4)],
 (.seq (.reg [⟨(some 4), none, .mv (kB false), [], (.new [])⟩])
 (.seq (.seq (.reg [⟨(some 6), none, .mv (.t 0), [], (.new [])⟩,
   ⟨(some 7), none, .len (.t 6), [], (.new [])⟩,
   ⟨(some 8), none, .mv (.t 1), [], (.new [])⟩,
   ⟨(some 9), none, .len (.t 8), [], (.new [])⟩,
   ⟨(some 10), none, .bin .neq (.t 7) (.t 9), [], (.new [])⟩])
 (.cond (.t 10)
 (.seq (.reg [⟨(some 4), none, .mv (kB false), [], (.new [])⟩])
 .ret)
 .skip))
 (.seq (.seq (.reg [⟨(some 5), none, .mv (kI 0), [], (.new [])⟩])
 (.sem (.block 0 (.loop (.seq (.seq (.reg [⟨(some 11), none, .mv (.t 5), [], (.new [])⟩,
   ⟨(some 12), none, .mv (.t 0), [], (.new [])⟩,
   ⟨(some 13), none, .len (.t 12), [], (.new [])⟩,
   ⟨(some 14), none, .bin .lss (.t 11) (.t 13), [], (.new [])⟩])
 (.cond (.t 14)
 .skip
 (.exit 0)))
 (.seq (.block 1 (.seq (.regd [⟨(some 17), none, .mv (.t 0), [], (.new [])⟩,
   ⟨(some 18), none, .mv (.t 5), [], (.new [])⟩,
   ⟨(some 19), none, .indexA 2 (.t 17) (.t 18), [0, 1], (.new [])⟩,
   ⟨(some 20), none, .load (some 2) (.t 19), [0, 1, 2], (.new [])⟩,
   ⟨(some 21), none, .mv (.t 1), [], (.new [])⟩,
   ⟨(some 22), none, .mv (.t 5), [], (.new [])⟩,
   ⟨(some 23), none, .indexA 2 (.t 21) (.t 22), [4, 5], (.new [])⟩,
   ⟨(some 24), none, .load (some 2) (.t 23), [4, 5, 6], (.new [])⟩,
   ⟨(some 25), none, .eqs true [(0, 2), (1, 2)] (.t 20) (.t 24), [0, 1, 2, 3, 4, 5, 6, 7], (.lone [])⟩])
 (.cond (.t 25)
 (.seq (.reg [⟨(some 4), none, .mv (kB false), [], (.new [])⟩])
 .ret)
 .skip)))
 (.reg [⟨(some 15), none, .mv (.t 5), [], (.new [])⟩,
   ⟨(some 16), none, .bin .add (.t 15) (kI 1), [], (.new [])⟩,
   ⟨(some 5), none, .mv (.t 16), [], (.new [])⟩])))))))
 (.seq (.reg [⟨(some 4), none, .mv (kB true), [], (.new [])⟩])
 .ret))))⟩
theorem a19_ok : afn Try.prog 19 = some a19.er := by kernel_rfl
theorem F19_ok {x0 : (List Label)} {x1 : (List Label)} {r : Bool} (h : F19 x0 x1 = some r) : CallD Try.prog 19 [.c (.d (.sl (x0.map eLabel))), .c (.d (.sl (x1.map eLabel)))] [] (tupV [.c (.d (.v (.bool r)))]) [] := by
  refine callS a19_ok (by simp [a19]) ?_
  rw [F19] at h
  simp only [a19, VW.down, Nat.reduceEqDiff, reduceCtorEq, Nat.reduceAdd, Nat.reduceLeDiff, Nat.reduceLT, Nat.reduceBEq, Nat.reduceSub, EE.down]
  refine condS (fun c1 => ?_) (fun c1 => ?_)
  · have h := (if_pos c1).symm.trans h
    simp only [VW.down, Nat.reduceEqDiff, reduceCtorEq, Nat.reduceAdd, Nat.reduceLeDiff, Nat.reduceLT, Nat.reduceBEq, Nat.reduceSub, EE.down]
    obtain rfl := Option.some.inj h
    exact eF []
  · have h := (if_neg c1).symm.trans h
    simp only [VW.down, Nat.reduceEqDiff, reduceCtorEq, Nat.reduceAdd, Nat.reduceLeDiff, Nat.reduceLT, Nat.reduceBEq, Nat.reduceSub, EE.down]
    obtain ⟨o2, ho, h⟩ := Option.bind_eq_some_iff.1 h
    refine cutS (fun s => ∃ po2, o2 = Sum.inr po2 ∧ s = ⟨[], []⟩) ?_ ?_
    · have h0o2 := h
      have h := ho
      clear ho
      obtain ⟨_, hk, h⟩ := Option.bind_eq_some_iff.1 h
      have hk := ck_some hk
      simp only [VW.down, Nat.reduceEqDiff, reduceCtorEq, Nat.reduceAdd, Nat.reduceLeDiff, Nat.reduceLT, Nat.reduceBEq, Nat.reduceSub, EE.down]
      refine bL (fun j s => ∃ (o2_0 : Nat), (o2_0 ≤ x0.length ∧ j = x0.length - o2_0) ∧ s = ⟨[(0, .one (.c (.d (.sl (x0.map eLabel))))), (1, .one (.c (.d (.sl (x1.map eLabel))))), (5, .one (.c (.d (.v (.int .i64 ((o2_0 : Int)))))))], []⟩ ∧ F19_l2 x1 (x0.drop o2_0) o2_0 = some o2) (x0.length - 0) [] ⟨0, ⟨hk.1, rfl⟩, rfl, h⟩ ?_
      rintro _ _ ⟨o2_0, ⟨hi, rfl⟩, rfl, h⟩
      simp only [VW.down, Nat.reduceEqDiff, reduceCtorEq, Nat.reduceAdd, Nat.reduceLeDiff, Nat.reduceLT, Nat.reduceBEq, Nat.reduceSub, EE.down]
      refine condS (fun c3 => ?_) (fun c3 => ?_)
      · obtain ⟨xo2, hxo2, hd⟩ := countY (show (o2_0 : Int) < (x0.length : Int) from c3)
        rw [hd, F19_l2] at h
        simp only [VW.down, Nat.reduceEqDiff, reduceCtorEq, Nat.reduceAdd, Nat.reduceLeDiff, Nat.reduceLT, Nat.reduceBEq, Nat.reduceSub, EE.down]
        refine t_idxF (enc := eLabel) (xs := x0) rfl rfl hxo2 rfl ?_
        simp only [VW.down, Nat.reduceEqDiff, reduceCtorEq, Nat.reduceAdd, Nat.reduceLeDiff, Nat.reduceLT, Nat.reduceBEq, Nat.reduceSub, EE.down]
        obtain ⟨y4, hy4, h⟩ := Option.bind_eq_some_iff.1 h
        refine t_idxF (enc := eLabel) (xs := x1) rfl rfl hy4 rfl ?_
        simp only [VW.down, Nat.reduceEqDiff, reduceCtorEq, Nat.reduceAdd, Nat.reduceLeDiff, Nat.reduceLT, Nat.reduceBEq, Nat.reduceSub, EE.down]
        refine condS (fun c5 => ?_) (fun c5 => ?_)
        · have h := (if_pos c5).symm.trans h
          simp only [VW.down, Nat.reduceEqDiff, reduceCtorEq, Nat.reduceAdd, Nat.reduceLeDiff, Nat.reduceLT, Nat.reduceBEq, Nat.reduceSub, EE.down]
          obtain ⟨fh0o2, hfh0o2, rfl⟩ := Option.map_eq_some_iff.1 h
          have h := hfh0o2.trans h0o2
          obtain rfl := Option.some.inj h
          exact eF []
        · have h := (if_neg c5).symm.trans h
          simp only [VW.down, Nat.reduceEqDiff, reduceCtorEq, Nat.reduceAdd, Nat.reduceLeDiff, Nat.reduceLT, Nat.reduceBEq, Nat.reduceSub, EE.down]
          rw [wrapN (by omega)]
          exact eL' (x0.length - (o2_0 + 1)) [] ⟨o2_0 + 1, ⟨by omega, rfl⟩, rfl, h⟩ (by omega)
      · rw [countN (show ¬ ((o2_0 : Int) < (x0.length : Int)) from c3), F19_l2] at h
        simp only [VW.down, Nat.reduceEqDiff, reduceCtorEq, Nat.reduceAdd, Nat.reduceLeDiff, Nat.reduceLT, Nat.reduceBEq, Nat.reduceSub, EE.down]
        obtain rfl := Option.some.inj h
        exact eM [] ⟨_, rfl, rfl⟩
    · rintro _ ⟨po2, rfl, rfl⟩
      clear ho
      dsimp only at h
      simp only [VW.down, Nat.reduceEqDiff, reduceCtorEq, Nat.reduceAdd, Nat.reduceLeDiff, Nat.reduceLT, Nat.reduceBEq, Nat.reduceSub, EE.down]
      obtain rfl := Option.some.inj h
      exact eF []

/- orchestrator/orchestratorlaw03.LabelLookup -/
def F4 (x0 : (List Label)) (x1 : ByteArray) (x2 : ByteArray) : Option (Bool) := (((F11 x0 ([])).bind fun t2 => (if (nb t2) = true then some true else (if 200 < (x1.size : Int) then some true else some (decide (200 < (x2.size : Int)))))).bind fun o1 => (if o1 = true then (F12).bind fun t6 => some t6 else (F17 x0 x1).bind fun t7 => (F18 x0 x1).bind fun t8 => (((if t7.1 = t8.1 then (if (((t7.2 == t8.2) != false)) = true then (F20 x0 x1 x2).bind fun t12 => (F21 x0 x1 x2).bind fun t13 => (F19 t12 t13).bind fun t14 => (if t14 = true then (F12).bind fun t16 => some t16 else some false) else some false) else some false)).bind fun o9 => some o9)))
def a4 : AFn := ⟨59, [(.tmp 6)],
 (.seq (.reg [⟨(some 6), none, .mv (kB false), [], (.new [])⟩])
 (.seq (.seq (.sem (.reg [⟨(some 11), none, .mv (.t 0), [], (.new [])⟩,
   ⟨(some 12), none, .call 11 [(.t 11), kN], [], (.new [])⟩,
   ⟨(some 13), none, .not (.t 12), [], (.new [])⟩,
   ⟨(some 14), none, .mv (.t 13), [], (.new [])⟩,
   ⟨(some 15), (some (14, false)), .mv (.t 1), [], (.new [])⟩,
   ⟨(some 16), (some (14, false)), .slen (.t 15), [], (.new [])⟩,
   ⟨(some 17), (some (14, false)), .bin .gtr (.t 16) (kI 200), [], (.new [])⟩,
   ⟨(some 18), none, .pick (.t 14) (kB true) (.t 17), [], (.new [])⟩,
   ⟨(some 19), none, .mv (.t 18), [], (.new [])⟩,
   ⟨(some 20), (some (19, false)), .mv (.t 2), [], (.new [])⟩,
   ⟨(some 21), (some (19, false)), .slen (.t 20), [], (.new [])⟩,
   ⟨(some 22), (some (19, false)), .bin .gtr (.t 21) (kI 200), [], (.new [])⟩,
   ⟨(some 23), none, .pick (.t 19) (kB true) (.t 22), [], (.new [])⟩]))
 (.cond (.t 23)
 (.seq (.reg [⟨(some 24), none, .call 12 [], [], (.new [])⟩,
   ⟨(some 6), none, .mv (.t 24), [], (.new [])⟩])
 .ret)
 .skip))
 (.seq (.reg [⟨(some 26), none, .mv (.t 0), [], (.new [])⟩,
   ⟨(some 27), none, .mv (.t 1), [], (.new [])⟩,
   ⟨(some 28), none, .call 17 [(.t 26), (.t 27)], [], (.new [])⟩,
   ⟨(some 25), none, .mv (.t 28), [], (.new [])⟩,
   ⟨(some 29), none, .ext (.t 25) 0, [], (.new [])⟩,
   ⟨(some 30), none, .ext (.t 25) 1, [], (.new [])⟩,
   ⟨(some 7), none, .mv (.t 29), [], (.new [])⟩,
   ⟨(some 8), none, .mv (.t 30), [], (.new [])⟩])
 (.seq (.reg [⟨(some 32), none, .mv (.t 0), [], (.new [])⟩,
   ⟨(some 33), none, .mv (.t 1), [], (.new [])⟩,
   ⟨(some 34), none, .call 18 [(.t 32), (.t 33)], [], (.new [])⟩,
   ⟨(some 31), none, .mv (.t 34), [], (.new [])⟩,
   ⟨(some 35), none, .ext (.t 31) 0, [], (.new [])⟩,
   ⟨(some 36), none, .ext (.t 31) 1, [], (.new [])⟩,
   ⟨(some 9), none, .mv (.t 35), [], (.new [])⟩,
   ⟨(some 10), none, .mv (.t 36), [], (.new [])⟩])
 (.seq (.sem (.reg [⟨(some 37), none, .mv (.t 7), [], (.new [])⟩,
   ⟨(some 38), none, .mv (.t 9), [], (.new [])⟩,
   ⟨(some 39), none, .bin .eql (.t 37) (.t 38), [], (.new [])⟩,
   ⟨(some 40), none, .mv (.t 39), [], (.new [])⟩,
   ⟨(some 41), (some (40, true)), .mv (.t 8), [], (.new [])⟩,
   ⟨(some 42), (some (40, true)), .mv (.t 10), [], (.new [])⟩,
   ⟨(some 43), (some (40, true)), .beq false (.t 41) (.t 42), [], (.new [])⟩,
   ⟨(some 44), none, .pick (.t 40) (.t 43) (kB false), [], (.new [])⟩,
   ⟨(some 45), none, .mv (.t 44), [], (.new [])⟩,
   ⟨(some 46), (some (45, true)), .mv (.t 0), [], (.new [])⟩,
   ⟨(some 47), (some (45, true)), .mv (.t 1), [], (.new [])⟩,
   ⟨(some 48), (some (45, true)), .mv (.t 2), [], (.new [])⟩,
   ⟨(some 49), (some (45, true)), .call 20 [(.t 46), (.t 47), (.t 48)], [], (.new [])⟩,
   ⟨(some 50), (some (45, true)), .mv (.t 0), [], (.new [])⟩,
   ⟨(some 51), (some (45, true)), .mv (.t 1), [], (.new [])⟩,
   ⟨(some 52), (some (45, true)), .mv (.t 2), [], (.new [])⟩,
   ⟨(some 53), (some (45, true)), .call 21 [(.t 50), (.t 51), (.t 52)], [], (.new [])⟩,
   ⟨(some 54), (some (45, true)), .call 19 [(.t 49), (.t 53)], [], (.new [])⟩,
   ⟨(some 55), none, .pick (.t 45) (.t 54) (kB false), [], (.new [])⟩,
   ⟨(some 56), none, .mv (.t 55), [], (.new [])⟩,
   ⟨(some 57), (some (56, true)), .call 12 [], [], (.new [])⟩,
   ⟨(some 58), none, .pick (.t 56) (.t 57) (kB false), [], (.new [])⟩,
   ⟨(some 6), none, .mv (.t 58), [], (.new [])⟩]))
 .ret)))))⟩
theorem a4_ok : afn Try.prog 4 = some a4.er := by kernel_rfl
theorem F4_ok {x0 : (List Label)} {x1 : ByteArray} {x2 : ByteArray} {r : Bool} (h : F4 x0 x1 x2 = some r) : CallD Try.prog 4 [.c (.d (.sl (x0.map eLabel))), .c (.d (.v (.string x1))), .c (.d (.v (.string x2)))] [] (tupV [.c (.d (.v (.bool r)))]) [] := by
  refine callS a4_ok (by simp [a4]) ?_
  rw [F4] at h
  simp only [a4, VW.down, Nat.reduceEqDiff, reduceCtorEq, Nat.reduceAdd, Nat.reduceLeDiff, Nat.reduceLT, Nat.reduceBEq, Nat.reduceSub, EE.down]
  obtain ⟨o1, ho, h⟩ := Option.bind_eq_some_iff.1 h
  refine cutS (fun s => s = ⟨[(0, .one (.c (.d (.sl (x0.map eLabel))))), (1, .one (.c (.d (.v (.string x1))))), (2, .one (.c (.d (.v (.string x2))))), (23, .one (.c (.d (.v (.bool o1)))))], []⟩) ?_ ?_
  · have h := ho
    clear ho
    simp only [VW.down, Nat.reduceEqDiff, reduceCtorEq, Nat.reduceAdd, Nat.reduceLeDiff, Nat.reduceLT, Nat.reduceBEq, Nat.reduceSub, EE.down]
    obtain ⟨t2, ht2, h⟩ := Option.bind_eq_some_iff.1 h
    refine callX_n [] (F11_ok ht2) ?_ ?_ ?_ ?_ ?_ ?_
    · first | rfl | simp [nrmA, nrmC, nrm, A1.ren, C.ren, rn, List.length_set]
    · simp [liveAll, A1.live, C.live]
    · rfl
    · decide
    · exact trivial
    simp only [VW.down, Nat.reduceEqDiff, reduceCtorEq, Nat.reduceAdd, Nat.reduceLeDiff, Nat.reduceLT, Nat.reduceBEq, Nat.reduceSub, EE.down]
    refine guardSB (fun g3 => ?_) (fun g3 => ?_)
    · have h := (if_pos g3).symm.trans h
      simp only [VW.down, Nat.reduceEqDiff, reduceCtorEq, Nat.reduceAdd, Nat.reduceLeDiff, Nat.reduceLT, Nat.reduceBEq, Nat.reduceSub, EE.down]
      obtain rfl := Option.some.inj h
      exact eM [] rfl
    · have h := (if_neg g3).symm.trans h
      simp only [VW.down, Nat.reduceEqDiff, reduceCtorEq, Nat.reduceAdd, Nat.reduceLeDiff, Nat.reduceLT, Nat.reduceBEq, Nat.reduceSub, EE.down]
      refine guardS (fun g4 => ?_) (fun g4 => ?_)
      · have h := (if_pos g4).symm.trans h
        simp only [VW.down, Nat.reduceEqDiff, reduceCtorEq, Nat.reduceAdd, Nat.reduceLeDiff, Nat.reduceLT, Nat.reduceBEq, Nat.reduceSub, EE.down]
        obtain rfl := Option.some.inj h
        exact eM [] rfl
      · have h := (if_neg g4).symm.trans h
        simp only [VW.down, Nat.reduceEqDiff, reduceCtorEq, Nat.reduceAdd, Nat.reduceLeDiff, Nat.reduceLT, Nat.reduceBEq, Nat.reduceSub, EE.down]
        obtain rfl := Option.some.inj h
        exact eM [] rfl
  · rintro _ rfl
    clear ho
    simp only [VW.down, Nat.reduceEqDiff, reduceCtorEq, Nat.reduceAdd, Nat.reduceLeDiff, Nat.reduceLT, Nat.reduceBEq, Nat.reduceSub, EE.down]
    refine condB (fun c5 => ?_) (fun c5 => ?_)
    · have h := (if_pos c5).symm.trans h
      simp only [VW.down, Nat.reduceEqDiff, reduceCtorEq, Nat.reduceAdd, Nat.reduceLeDiff, Nat.reduceLT, Nat.reduceBEq, Nat.reduceSub, EE.down]
      obtain ⟨t6, ht6, h⟩ := Option.bind_eq_some_iff.1 h
      refine callX_n [] (F12_ok ht6) ?_ ?_ ?_ ?_ ?_ ?_
      · first | rfl | simp [nrmA, nrmC, nrm, A1.ren, C.ren, rn, List.length_set]
      · simp [liveAll, A1.live, C.live]
      · rfl
      · decide
      · exact trivial
      simp only [VW.down, Nat.reduceEqDiff, reduceCtorEq, Nat.reduceAdd, Nat.reduceLeDiff, Nat.reduceLT, Nat.reduceBEq, Nat.reduceSub, EE.down]
      obtain rfl := Option.some.inj h
      exact eF []
    · have h := (if_neg c5).symm.trans h
      simp only [VW.down, Nat.reduceEqDiff, reduceCtorEq, Nat.reduceAdd, Nat.reduceLeDiff, Nat.reduceLT, Nat.reduceBEq, Nat.reduceSub, EE.down]
      obtain ⟨t7, ht7, h⟩ := Option.bind_eq_some_iff.1 h
      refine callX_n [] (F17_ok ht7) ?_ ?_ ?_ ?_ ?_ ?_
      · first | rfl | simp [nrmA, nrmC, nrm, A1.ren, C.ren, rn, List.length_set]
      · simp [liveAll, A1.live, C.live]
      · rfl
      · decide
      · exact trivial
      simp only [VW.down, Nat.reduceEqDiff, reduceCtorEq, Nat.reduceAdd, Nat.reduceLeDiff, Nat.reduceLT, Nat.reduceBEq, Nat.reduceSub, EE.down]
      obtain ⟨t8, ht8, h⟩ := Option.bind_eq_some_iff.1 h
      refine callX_n [] (F18_ok ht8) ?_ ?_ ?_ ?_ ?_ ?_
      · first | rfl | simp [nrmA, nrmC, nrm, A1.ren, C.ren, rn, List.length_set]
      · simp [liveAll, A1.live, C.live]
      · rfl
      · decide
      · exact trivial
      simp only [VW.down, Nat.reduceEqDiff, reduceCtorEq, Nat.reduceAdd, Nat.reduceLeDiff, Nat.reduceLT, Nat.reduceBEq, Nat.reduceSub, EE.down]
      obtain ⟨o9, ho, h⟩ := Option.bind_eq_some_iff.1 h
      refine cutS (fun s => s = ⟨[(6, .one (.c (.d (.v (.bool o9)))))], []⟩) ?_ ?_
      · have h := ho
        clear ho
        simp only [VW.down, Nat.reduceEqDiff, reduceCtorEq, Nat.reduceAdd, Nat.reduceLeDiff, Nat.reduceLT, Nat.reduceBEq, Nat.reduceSub, EE.down]
        refine guardS (fun g10 => ?_) (fun g10 => ?_)
        · have h := (if_pos g10).symm.trans h
          simp only [VW.down, Nat.reduceEqDiff, reduceCtorEq, Nat.reduceAdd, Nat.reduceLeDiff, Nat.reduceLT, Nat.reduceBEq, Nat.reduceSub, EE.down]
          refine guardSB (fun g11 => ?_) (fun g11 => ?_)
          · have h := (if_pos g11).symm.trans h
            simp only [VW.down, Nat.reduceEqDiff, reduceCtorEq, Nat.reduceAdd, Nat.reduceLeDiff, Nat.reduceLT, Nat.reduceBEq, Nat.reduceSub, EE.down]
            obtain ⟨t12, ht12, h⟩ := Option.bind_eq_some_iff.1 h
            refine callX_n [] (F20_ok ht12) ?_ ?_ ?_ ?_ ?_ ?_
            · first | rfl | simp [nrmA, nrmC, nrm, A1.ren, C.ren, rn, List.length_set]
            · simp [liveAll, A1.live, C.live]
            · rfl
            · decide
            · exact trivial
            simp only [VW.down, Nat.reduceEqDiff, reduceCtorEq, Nat.reduceAdd, Nat.reduceLeDiff, Nat.reduceLT, Nat.reduceBEq, Nat.reduceSub, EE.down]
            obtain ⟨t13, ht13, h⟩ := Option.bind_eq_some_iff.1 h
            refine callX_n [] (F21_ok ht13) ?_ ?_ ?_ ?_ ?_ ?_
            · first | rfl | simp [nrmA, nrmC, nrm, A1.ren, C.ren, rn, List.length_set]
            · simp [liveAll, A1.live, C.live]
            · rfl
            · decide
            · exact trivial
            simp only [VW.down, Nat.reduceEqDiff, reduceCtorEq, Nat.reduceAdd, Nat.reduceLeDiff, Nat.reduceLT, Nat.reduceBEq, Nat.reduceSub, EE.down]
            obtain ⟨t14, ht14, h⟩ := Option.bind_eq_some_iff.1 h
            refine callX_bor (F19_ok ht14) (by simp only [borAs, bors, hp, List.getElem?_cons_zero, List.getElem?_cons_succ, Option.join_some, List.drop_zero, bor_full', true_and, Nat.zero_add, List.length_map, Nat.le_refl, nrm, List.length_cons, List.length_nil, Nat.reduceAdd, Nat.reduceLeDiff, List.take_succ_cons, List.take_zero, List.take_nil, List.map_cons, List.map_nil, List.length_set, EE.down]) rfl ?_
            simp only [VW.down, Nat.reduceEqDiff, reduceCtorEq, Nat.reduceAdd, Nat.reduceLeDiff, Nat.reduceLT, Nat.reduceBEq, Nat.reduceSub, EE.down]
            refine guardSB (fun g15 => ?_) (fun g15 => ?_)
            · have h := (if_pos g15).symm.trans h
              simp only [VW.down, Nat.reduceEqDiff, reduceCtorEq, Nat.reduceAdd, Nat.reduceLeDiff, Nat.reduceLT, Nat.reduceBEq, Nat.reduceSub, EE.down]
              obtain ⟨t16, ht16, h⟩ := Option.bind_eq_some_iff.1 h
              refine callX_n [] (F12_ok ht16) ?_ ?_ ?_ ?_ ?_ ?_
              · first | rfl | simp [nrmA, nrmC, nrm, A1.ren, C.ren, rn, List.length_set]
              · simp [liveAll, A1.live, C.live]
              · rfl
              · decide
              · exact trivial
              simp only [VW.down, Nat.reduceEqDiff, reduceCtorEq, Nat.reduceAdd, Nat.reduceLeDiff, Nat.reduceLT, Nat.reduceBEq, Nat.reduceSub, EE.down]
              obtain rfl := Option.some.inj h
              exact eM [] rfl
            · have h := (if_neg g15).symm.trans h
              simp only [VW.down, Nat.reduceEqDiff, reduceCtorEq, Nat.reduceAdd, Nat.reduceLeDiff, Nat.reduceLT, Nat.reduceBEq, Nat.reduceSub, EE.down]
              obtain rfl := Option.some.inj h
              exact eM [] rfl
          · have h := (if_neg g11).symm.trans h
            simp only [VW.down, Nat.reduceEqDiff, reduceCtorEq, Nat.reduceAdd, Nat.reduceLeDiff, Nat.reduceLT, Nat.reduceBEq, Nat.reduceSub, EE.down]
            obtain rfl := Option.some.inj h
            exact eM [] rfl
        · have h := (if_neg g10).symm.trans h
          simp only [VW.down, Nat.reduceEqDiff, reduceCtorEq, Nat.reduceAdd, Nat.reduceLeDiff, Nat.reduceLT, Nat.reduceBEq, Nat.reduceSub, EE.down]
          obtain rfl := Option.some.inj h
          exact eM [] rfl
      · rintro _ rfl
        clear ho
        simp only [VW.down, Nat.reduceEqDiff, reduceCtorEq, Nat.reduceAdd, Nat.reduceLeDiff, Nat.reduceLT, Nat.reduceBEq, Nat.reduceSub, EE.down]
        obtain rfl := Option.some.inj h
        exact eF []

end Go.Proofs.Ytadhmlfnfgpjjaa
