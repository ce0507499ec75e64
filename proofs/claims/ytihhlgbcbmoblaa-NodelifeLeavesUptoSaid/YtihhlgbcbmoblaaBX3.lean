/- Each Go function as a function over typed data, and its walk. -/
import Derived.Test.YtihhlgbcbmoblaaBX2
namespace Go.Proofs.Ytihhlgbcbmoblaa
open Go Go.Fw Go.Shelf
set_option maxRecDepth 100000
set_option maxHeartbeats 4000000
set_option linter.unusedSimpArgs false
set_option linter.unusedVariables false
/- orchestrator/orchestratorref54.Leave -/
def F14_l1  : List Node → Nat → Bool → Option (Bool)
  | [], o1_1, o1_0 => some o1_0
  | xo1 :: xs, o1_1, o1_0 => (((if o1_0 = true then some true else some xo1.Ready)).bind fun o3 => F14_l1  xs (o1_1 + 1) o3)
def F14_l6 (o1 : Bool) (x0 : (List Node)) (x1 : (List Pod)) (x2 : Int) : Nat → (List ByteArray) → Int → Option ((List ByteArray))
  | 0, _, _ => none
  | k + 1, o6_0, o6_1 => (((if o6_1 < (x1.length : Int) then some o1 else some false)).bind fun o7 => (if o7 = true then (((rdI x1 o6_1).bind fun y11 => (F37 x0 y11.Spec.Node).bind fun t12 => (((if y11.Meta.Deleting = true then some true else (if y11.Spec.Node = (⟨#[]⟩ : ByteArray) then some true else some (decide (t12 < 0))))).bind fun o13 => (if o13 = true then some o6_0 else (rdI x0 t12).bind fun y17 => (F39 y17.Taints y11).bind fun t18 => (F38 t18 y11.Spec.Tolerations).bind fun t19 => (((if t19.2 = true then (F28 x2).bind fun t22 => some (decide (t19.1 ≤ (if (if 0 < x2 then x2 else 0) < 1000000000000 then (if 0 < x2 then x2 else 0) else 1000000000000))) else some false)).bind fun o20 => (if o20 = true then (F41 y11.Meta).bind fun t24 => (F40 o6_0 t24).bind fun t25 => some t25 else some o6_0))))).bind fun o10 => F14_l6 o1 x0 x1 x2 k o10 ((IntKind.i64.wrap (o6_1 + 1)))) else some o6_0))
def F14 (x0 : (List Node)) (x1 : (List Pod)) (x2 : Int) : Option ((List ByteArray)) := (((ck (0 ≤ x0.length ∧ x0.length ≤ 4294967290)).bind fun u5 => F14_l1 x0 0 false).bind fun o1 => ((F14_l6 o1 x0 x1 x2 1099511627776 ([]) 0).bind fun o6 => some o6))
def a14 : AFn := ⟨87, [(.tmp 6)],
 (.seq (.reg [⟨(some 6), none, .mv kN, [], (.new [])⟩])
 (.seq (.reg [⟨(some 7), none, .mv (kB false), [], (.new [])⟩])
 (.seq (.seq (.reg [⟨(some 8), none, .mv (kI 0), [], (.new [])⟩])
 (.sem (.block 0 (.loop (.seq (.seq (.reg [⟨(some 15), none, .mv (.t 8), [], (.new [])⟩,
   ⟨(some 16), none, .mv (.t 0), [], (.new [])⟩,
   ⟨(some 17), none, .len (.t 16), [], (.new [])⟩,
   ⟨(some 18), none, .bin .lss (.t 15) (.t 17), [], (.new [])⟩])
 (.cond (.t 18)
 .skip
 (.exit 0)))
 (.seq (.sem (.block 1 (.reg [⟨(some 21), none, .mv (.t 7), [], (.new [])⟩,
   ⟨(some 22), none, .mv (.t 21), [], (.new [])⟩,
   ⟨(some 23), (some (22, false)), .mv (.t 0), [], (.new [])⟩,
   ⟨(some 24), (some (22, false)), .mv (.t 8), [], (.new [])⟩,
   ⟨(some 25), (some (22, false)), .indexA 24 (.t 23) (.t 24), [], (.new [])⟩,
   ⟨(some 26), (some (22, false)), .fieldA 19 (.t 25), [], (.new [])⟩,
   ⟨(some 27), (some (22, false)), .load none (.t 26), [], (.new [])⟩,
   ⟨(some 28), none, .pick (.t 22) (kB true) (.t 27), [], (.new [])⟩,
   ⟨(some 7), none, .mv (.t 28), [], (.new [])⟩])))
 (.reg [⟨(some 19), none, .mv (.t 8), [], (.new [])⟩,
   ⟨(some 20), none, .bin .add (.t 19) (kI 1), [], (.new [])⟩,
   ⟨(some 8), none, .mv (.t 20), [], (.new [])⟩])))))))
 (.seq (.reg [⟨(some 9), none, .mv kN, [], (.new [])⟩])
 (.seq (.seq (.reg [⟨(some 10), none, .mv (kI 0), [], (.new [])⟩])
 (.sem (.block 2 (.loop (.seq (.seq (.sem (.reg [⟨(some 29), none, .mv (.t 10), [], (.new [])⟩,
   ⟨(some 30), none, .mv (.t 1), [], (.new [])⟩,
   ⟨(some 31), none, .len (.t 30), [], (.new [])⟩,
   ⟨(some 32), none, .bin .lss (.t 29) (.t 31), [], (.new [])⟩,
   ⟨(some 33), none, .mv (.t 32), [], (.new [])⟩,
   ⟨(some 34), (some (33, true)), .mv (.t 7), [], (.new [])⟩,
   ⟨(some 35), none, .pick (.t 33) (.t 34) (kB false), [], (.lone [30])⟩]))
 (.cond (.t 35)
 .skip
 (.exit 2)))
 (.seq (.sem (.block 3 (.seq (.reg [⟨(some 38), none, .mv (.t 1), [], (.new [])⟩,
   ⟨(some 39), none, .mv (.t 10), [], (.new [])⟩,
   ⟨(some 40), none, .indexA 32 (.t 38) (.t 39), [], (.new [])⟩,
   ⟨(some 41), none, .load (some 32) (.t 40), [], (.new [])⟩,
   ⟨(some 11), none, .zbox [.d (.v (.string ⟨#[]⟩)), .d (.v (.string ⟨#[]⟩)), .d (.v (.string ⟨#[]⟩)), .d (.v (.int .i64 0)), .d (.v (.int .i64 0)), .d (.v (.int .i64 0)), .d (.v (.int .i64 0)), .d (.v (.bool false)), .d (.v (.int .i64 0)), .d (.v (.slice none 0 0)), .d (.v (.slice none 0 0)), .d (.v (.slice none 0 0)), .d (.v (.slice none 0 0)), .d (.v (.string ⟨#[]⟩)), .d (.v (.int .i64 0)), .d (.v (.int .i64 0)), .d (.v (.int .i64 0)), .d (.v (.slice none 0 0)), .d (.v (.slice none 0 0)), .d (.v (.slice none 0 0)), .d (.v (.slice none 0 0)), .d (.v (.slice none 0 0)), .d (.v (.slice none 0 0)), .d (.v (.int .i64 0)), .d (.v (.bool false)), .d (.v (.int .i64 0)), .d (.v (.int .i64 0)), .d (.v (.int .i64 0)), .d (.v (.slice none 0 0)), .d (.v (.int .i64 0)), .d (.v (.string ⟨#[]⟩)), .d (.v (.string ⟨#[]⟩))], [], (.new [])⟩,
   ⟨none, none, .store 32 (.t 11) (.t 41), [], (.new [])⟩])
 (.seq (.reg [⟨(some 42), none, .mv (.t 0), [], (.new [])⟩,
   ⟨(some 43), none, .fieldA 13 (.t 11), [], (.new [])⟩,
   ⟨(some 44), none, .fieldA 0 (.t 43), [], (.new [])⟩,
   ⟨(some 45), none, .load none (.t 44), [], (.new [])⟩,
   ⟨(some 46), none, .call 37 [(.t 42), (.t 45)], [], (.new [])⟩,
   ⟨(some 12), none, .mv (.t 46), [], (.new [])⟩])
 (.seq (.seq (.sem (.reg [⟨(some 47), none, .fieldA 0 (.t 11), [], (.new [])⟩,
   ⟨(some 48), none, .fieldA 7 (.t 47), [], (.new [])⟩,
   ⟨(some 49), none, .load none (.t 48), [], (.new [])⟩,
   ⟨(some 50), none, .mv (.t 49), [], (.new [])⟩,
   ⟨(some 51), (some (50, false)), .fieldA 13 (.t 11), [], (.new [])⟩,
   ⟨(some 52), (some (50, false)), .fieldA 0 (.t 51), [], (.new [])⟩,
   ⟨(some 53), (some (50, false)), .load none (.t 52), [], (.new [])⟩,
   ⟨(some 54), (some (50, false)), .bin .eql (.t 53) (kS ⟨#[]⟩), [], (.new [])⟩,
   ⟨(some 55), none, .pick (.t 50) (kB true) (.t 54), [], (.new [])⟩,
   ⟨(some 56), none, .mv (.t 55), [], (.new [])⟩,
   ⟨(some 57), (some (56, false)), .mv (.t 12), [], (.new [])⟩,
   ⟨(some 58), (some (56, false)), .bin .lss (.t 57) (kI 0), [], (.new [])⟩,
   ⟨(some 59), none, .pick (.t 56) (kB true) (.t 58), [], (.new [])⟩]))
 (.cond (.t 59)
 (.exit 3)
 .skip))
 (.seq (.regd [⟨(some 61), none, .mv (.t 0), [], (.new [])⟩,
   ⟨(some 62), none, .mv (.t 12), [], (.new [])⟩,
   ⟨(some 63), none, .indexA 24 (.t 61) (.t 62), [0, 1], (.new [])⟩,
   ⟨(some 64), none, .fieldA 18 (.t 63), [0, 1, 2], (.new [])⟩,
   ⟨(some 65), none, .load none (.t 64), [0, 1, 2, 3], (.new [])⟩,
   ⟨(some 66), none, .load (some 32) (.t 11), [], (.new [])⟩,
   ⟨(some 67), none, .call 39 [(.t 65), (.t 66)], [0, 1, 2, 3, 4, 5], (.new [0, 1, 2, 3, 4, 5])⟩,
   ⟨(some 68), none, .fieldA 13 (.t 11), [], (.new [])⟩,
   ⟨(some 69), none, .fieldA 9 (.t 68), [7], (.new [])⟩,
   ⟨(some 70), none, .load none (.t 69), [7, 8], (.new [])⟩,
   ⟨(some 71), none, .call 38 [(.t 67), (.t 70)], [0, 1, 2, 3, 4, 5, 6, 7, 8, 9], (.lone [])⟩,
   ⟨(some 60), none, .mv (.t 71), [0, 1, 2, 3, 4, 5, 6, 7, 8, 9, 10], (.new [])⟩,
   ⟨(some 72), none, .ext (.t 60) 0, [0, 1, 2, 3, 4, 5, 6, 7, 8, 9, 10, 11], (.new [])⟩,
   ⟨(some 73), none, .ext (.t 60) 1, [0, 1, 2, 3, 4, 5, 6, 7, 8, 9, 10, 11], (.new [])⟩,
   ⟨(some 13), none, .mv (.t 72), [0, 1, 2, 3, 4, 5, 6, 7, 8, 9, 10, 11, 12], (.new [])⟩,
   ⟨(some 14), none, .mv (.t 73), [0, 1, 2, 3, 4, 5, 6, 7, 8, 9, 10, 11, 12, 13, 14], (.new [])⟩])
 (.seq (.sem (.reg [⟨(some 74), none, .mv (.t 14), [], (.new [])⟩,
   ⟨(some 75), none, .mv (.t 74), [], (.new [])⟩,
   ⟨(some 76), (some (75, true)), .mv (.t 13), [], (.new [])⟩,
   ⟨(some 77), (some (75, true)), .mv (.t 2), [], (.new [])⟩,
   ⟨(some 78), (some (75, true)), .call 28 [(.t 77)], [], (.new [])⟩,
   ⟨(some 79), (some (75, true)), .bin .leq (.t 76) (.t 78), [], (.new [])⟩,
   ⟨(some 80), none, .pick (.t 75) (.t 79) (kB false), [], (.new [])⟩]))
 (.cond (.t 80)
 (.reg [⟨(some 81), none, .mv (.t 9), [], (.new [])⟩,
   ⟨(some 82), none, .fieldA 0 (.t 11), [], (.new [])⟩,
   ⟨(some 83), none, .load (some 13) (.t 82), [], (.new [])⟩,
   ⟨(some 84), none, .call 41 [(.t 83)], [], (.new [])⟩,
   ⟨(some 85), none, .call 40 [(.t 81), (.t 84)], [], (.new [])⟩,
   ⟨(some 9), none, .mv (.t 85), [], (.new [])⟩])
 .skip))))))))
 (.reg [⟨(some 36), none, .mv (.t 10), [], (.new [])⟩,
   ⟨(some 37), none, .bin .add (.t 36) (kI 1), [], (.new [])⟩,
   ⟨(some 10), none, .mv (.t 37), [], (.new [])⟩])))))))
 (.seq (.reg [⟨(some 86), none, .mv (.t 9), [], (.new [])⟩,
   ⟨(some 6), none, .mv (.t 86), [], (.new [])⟩])
 .ret))))))⟩
theorem a14_ok : afn Try.prog 14 = some a14.er := by kernel_rfl
theorem F14_ok {x0 : (List Node)} {x1 : (List Pod)} {x2 : Int} {r : (List ByteArray)} (h : F14 x0 x1 x2 = some r) : CallD Try.prog 14 [.c (.d (.sl (x0.map eNode))), .c (.d (.sl (x1.map ePod))), .c (.d (.v (.int .i64 x2)))] [] (tupV [.c (.own 0 0 0 (r.length) none)]) [some (.arr 0 1 (r.map eS))] := by
  refine callS a14_ok (by simp [a14]) ?_
  rw [F14] at h
  simp only [a14, VW.down, Nat.reduceEqDiff, reduceCtorEq, Nat.reduceAdd, Nat.reduceLeDiff, Nat.reduceLT, Nat.reduceBEq, Nat.reduceSub, EE.down]
  obtain ⟨o1, ho, h⟩ := Option.bind_eq_some_iff.1 h
  refine cutS (fun s => s = ⟨[(0, .one (.c (.d (.sl (x0.map eNode))))), (1, .one (.c (.d (.sl (x1.map ePod))))), (2, .one (.c (.d (.v (.int .i64 x2))))), (7, .one (.c (.d (.v (.bool o1)))))], []⟩) ?_ ?_
  · have h := ho
    clear ho
    obtain ⟨_, hk, h⟩ := Option.bind_eq_some_iff.1 h
    have hk := ck_some hk
    simp only [VW.down, Nat.reduceEqDiff, reduceCtorEq, Nat.reduceAdd, Nat.reduceLeDiff, Nat.reduceLT, Nat.reduceBEq, Nat.reduceSub, EE.down]
    refine bL (fun j s => ∃ (o1_1 : Nat) (o1_0 : Bool), (o1_1 ≤ x0.length ∧ j = x0.length - o1_1) ∧ s = ⟨[(0, .one (.c (.d (.sl (x0.map eNode))))), (1, .one (.c (.d (.sl (x1.map ePod))))), (2, .one (.c (.d (.v (.int .i64 x2))))), (7, .one (.c (.d (.v (.bool o1_0))))), (8, .one (.c (.d (.v (.int .i64 ((o1_1 : Int)))))))], []⟩ ∧ F14_l1 (x0.drop o1_1) o1_1 o1_0 = some o1) (x0.length - 0) [] ⟨0, false, ⟨hk.1, rfl⟩, rfl, h⟩ ?_
    rintro _ _ ⟨o1_1, o1_0, ⟨hi, rfl⟩, rfl, h⟩
    simp only [VW.down, Nat.reduceEqDiff, reduceCtorEq, Nat.reduceAdd, Nat.reduceLeDiff, Nat.reduceLT, Nat.reduceBEq, Nat.reduceSub, EE.down]
    refine condS (fun c2 => ?_) (fun c2 => ?_)
    · obtain ⟨xo1, hxo1, hd⟩ := countY (show (o1_1 : Int) < (x0.length : Int) from c2)
      rw [hd, F14_l1] at h
      simp only [VW.down, Nat.reduceEqDiff, reduceCtorEq, Nat.reduceAdd, Nat.reduceLeDiff, Nat.reduceLT, Nat.reduceBEq, Nat.reduceSub, EE.down]
      obtain ⟨o3, ho, h⟩ := Option.bind_eq_some_iff.1 h
      refine cutS (fun s => s = ⟨[(0, .one (.c (.d (.sl (x0.map eNode))))), (1, .one (.c (.d (.sl (x1.map ePod))))), (2, .one (.c (.d (.v (.int .i64 x2))))), (7, .one (.c (.d (.v (.bool o3))))), (8, .one (.c (.d (.v (.int .i64 ((o1_1 : Int)))))))], []⟩) ?_ ?_
      · have h := ho
        clear ho
        simp only [VW.down, Nat.reduceEqDiff, reduceCtorEq, Nat.reduceAdd, Nat.reduceLeDiff, Nat.reduceLT, Nat.reduceBEq, Nat.reduceSub, EE.down]
        refine guardSB (fun g4 => ?_) (fun g4 => ?_)
        · have h := (if_pos g4).symm.trans h
          simp only [VW.down, Nat.reduceEqDiff, reduceCtorEq, Nat.reduceAdd, Nat.reduceLeDiff, Nat.reduceLT, Nat.reduceBEq, Nat.reduceSub, EE.down]
          obtain rfl := Option.some.inj h
          exact eM [] rfl
        · have h := (if_neg g4).symm.trans h
          simp only [VW.down, Nat.reduceEqDiff, reduceCtorEq, Nat.reduceAdd, Nat.reduceLeDiff, Nat.reduceLT, Nat.reduceBEq, Nat.reduceSub, EE.down]
          refine t_idxF (enc := eNode) (xs := x0) rfl rfl hxo1 rfl ?_
          simp only [VW.down, Nat.reduceEqDiff, reduceCtorEq, Nat.reduceAdd, Nat.reduceLeDiff, Nat.reduceLT, Nat.reduceBEq, Nat.reduceSub, EE.down]
          obtain rfl := Option.some.inj h
          exact eM [] rfl
      · rintro _ rfl
        clear ho
        simp only [VW.down, Nat.reduceEqDiff, reduceCtorEq, Nat.reduceAdd, Nat.reduceLeDiff, Nat.reduceLT, Nat.reduceBEq, Nat.reduceSub, EE.down]
        rw [wrapN (by omega)]
        exact eL' (x0.length - (o1_1 + 1)) [] ⟨o1_1 + 1, o3, ⟨by omega, rfl⟩, rfl, h⟩ (by omega)
    · rw [countN (show ¬ ((o1_1 : Int) < (x0.length : Int)) from c2), F14_l1] at h
      simp only [VW.down, Nat.reduceEqDiff, reduceCtorEq, Nat.reduceAdd, Nat.reduceLeDiff, Nat.reduceLT, Nat.reduceBEq, Nat.reduceSub, EE.down]
      obtain rfl := Option.some.inj h
      exact eM [] rfl
  · rintro _ rfl
    clear ho
    simp only [VW.down, Nat.reduceEqDiff, reduceCtorEq, Nat.reduceAdd, Nat.reduceLeDiff, Nat.reduceLT, Nat.reduceBEq, Nat.reduceSub, EE.down]
    obtain ⟨o6, ho, h⟩ := Option.bind_eq_some_iff.1 h
    refine cutS (fun s => s = ⟨[(9, .one (.c (.own 0 0 0 (o6.length) none)))], [some (.arr 0 1 (o6.map eS))]⟩) ?_ ?_
    · have h := ho
      clear ho
      simp only [VW.down, Nat.reduceEqDiff, reduceCtorEq, Nat.reduceAdd, Nat.reduceLeDiff, Nat.reduceLT, Nat.reduceBEq, Nat.reduceSub, EE.down]
      refine bL (fun j s => ∃ (o6_0 : List ByteArray) (o6_1 : Int), s = ⟨[(0, .one (.c (.d (.sl (x0.map eNode))))), (1, .one (.c (.d (.sl (x1.map ePod))))), (2, .one (.c (.d (.v (.int .i64 x2))))), (7, .one (.c (.d (.v (.bool o1))))), (9, .one (.c (.own 0 0 0 (o6_0.length) none))), (10, .one (.c (.d (.v (.int .i64 o6_1)))))], [some (.arr 0 1 (o6_0.map eS))]⟩ ∧ F14_l6 o1 x0 x1 x2 j o6_0 o6_1 = some o6) 1099511627776 [none] ⟨[], 0, rfl, h⟩ ?_
      rintro j _ ⟨o6_0, o6_1, rfl, h⟩
      cases j with
      | zero => cases (show (none : Option _) = some _ from h)
      | succ j =>
        rw [F14_l6] at h
        simp only [VW.down, Nat.reduceEqDiff, reduceCtorEq, Nat.reduceAdd, Nat.reduceLeDiff, Nat.reduceLT, Nat.reduceBEq, Nat.reduceSub, EE.down]
        obtain ⟨o7, ho, h⟩ := Option.bind_eq_some_iff.1 h
        refine cutS (fun s => s = ⟨[(0, .one (.c (.d (.sl (x0.map eNode))))), (1, .one (.c (.d (.sl (x1.map ePod))))), (2, .one (.c (.d (.v (.int .i64 x2))))), (7, .one (.c (.d (.v (.bool o1))))), (9, .one (.c (.own 0 0 0 (o6_0.length) none))), (10, .one (.c (.d (.v (.int .i64 o6_1))))), (35, .one (.c (.d (.v (.bool o7)))))], [some (.arr 0 1 (o6_0.map eS))]⟩) ?_ ?_
        · have h := ho
          clear ho
          simp only [VW.down, Nat.reduceEqDiff, reduceCtorEq, Nat.reduceAdd, Nat.reduceLeDiff, Nat.reduceLT, Nat.reduceBEq, Nat.reduceSub, EE.down]
          refine guardS (fun g8 => ?_) (fun g8 => ?_)
          · have h := (if_pos g8).symm.trans h
            simp only [VW.down, Nat.reduceEqDiff, reduceCtorEq, Nat.reduceAdd, Nat.reduceLeDiff, Nat.reduceLT, Nat.reduceBEq, Nat.reduceSub, EE.down]
            obtain rfl := Option.some.inj h
            exact eM [some 0] rfl
          · have h := (if_neg g8).symm.trans h
            simp only [VW.down, Nat.reduceEqDiff, reduceCtorEq, Nat.reduceAdd, Nat.reduceLeDiff, Nat.reduceLT, Nat.reduceBEq, Nat.reduceSub, EE.down]
            obtain rfl := Option.some.inj h
            exact eM [some 0] rfl
        · rintro _ rfl
          clear ho
          simp only [VW.down, Nat.reduceEqDiff, reduceCtorEq, Nat.reduceAdd, Nat.reduceLeDiff, Nat.reduceLT, Nat.reduceBEq, Nat.reduceSub, EE.down]
          refine condB (fun c9 => ?_) (fun c9 => ?_)
          · have h := (if_pos c9).symm.trans h
            simp only [VW.down, Nat.reduceEqDiff, reduceCtorEq, Nat.reduceAdd, Nat.reduceLeDiff, Nat.reduceLT, Nat.reduceBEq, Nat.reduceSub, EE.down]
            obtain ⟨o10, ho, h⟩ := Option.bind_eq_some_iff.1 h
            refine cutS (fun s => s = ⟨[(0, .one (.c (.d (.sl (x0.map eNode))))), (1, .one (.c (.d (.sl (x1.map ePod))))), (2, .one (.c (.d (.v (.int .i64 x2))))), (7, .one (.c (.d (.v (.bool o1))))), (9, .one (.c (.own 0 0 0 (o10.length) none))), (10, .one (.c (.d (.v (.int .i64 o6_1)))))], [some (.arr 0 1 (o10.map eS))]⟩) ?_ ?_
            · have h := ho
              clear ho
              simp only [VW.down, Nat.reduceEqDiff, reduceCtorEq, Nat.reduceAdd, Nat.reduceLeDiff, Nat.reduceLT, Nat.reduceBEq, Nat.reduceSub, EE.down]
              obtain ⟨y11, hy11, h⟩ := Option.bind_eq_some_iff.1 h
              refine t_idxF (enc := ePod) (xs := x1) rfl rfl hy11 rfl ?_
              simp only [VW.down, Nat.reduceEqDiff, reduceCtorEq, Nat.reduceAdd, Nat.reduceLeDiff, Nat.reduceLT, Nat.reduceBEq, Nat.reduceSub, EE.down]
              obtain ⟨t12, ht12, h⟩ := Option.bind_eq_some_iff.1 h
              refine callX_n [] (F37_ok ht12) ?_ ?_ ?_ ?_ ?_ ?_
              · first | rfl | simp [nrmA, nrmC, nrm, A1.ren, C.ren, rn, List.length_set]
              · simp [liveAll, A1.live, C.live]
              · rfl
              · decide
              · exact trivial
              simp only [VW.down, Nat.reduceEqDiff, reduceCtorEq, Nat.reduceAdd, Nat.reduceLeDiff, Nat.reduceLT, Nat.reduceBEq, Nat.reduceSub, EE.down]
              obtain ⟨o13, ho, h⟩ := Option.bind_eq_some_iff.1 h
              refine cutS (fun s => s = ⟨[(0, .one (.c (.d (.sl (x0.map eNode))))), (1, .one (.c (.d (.sl (x1.map ePod))))), (2, .one (.c (.d (.v (.int .i64 x2))))), (7, .one (.c (.d (.v (.bool o1))))), (9, .one (.c (.own 0 0 0 (o6_0.length) none))), (10, .one (.c (.d (.v (.int .i64 o6_1))))), (11, .one (.c (.pt 1 0))), (12, .one (.c (.d (.v (.int .i64 t12))))), (59, .one (.c (.d (.v (.bool o13)))))], [some (.arr 0 1 (o6_0.map eS)), some (.box [.d (.v (.string y11.Meta.Kind)), .d (.v (.string y11.Meta.Namespace)), .d (.v (.string y11.Meta.Name)), .d (.v (.int .i64 y11.Meta.Uid)), .d (.v (.int .i64 y11.Meta.Version)), .d (.v (.int .i64 y11.Meta.Generation)), .d (.v (.int .i64 y11.Meta.Created)), .d (.v (.bool y11.Meta.Deleting)), .d (.v (.int .i64 y11.Meta.DeleteAt)), .d (.sl (y11.Meta.Labels.map eLabel)), .d (.sl (y11.Meta.Owners.map eOwner)), .d (.sl (y11.Meta.Finalizers.map eS)), .d (.sl (y11.Meta.Managers.map eManager)), .d (.v (.string y11.Spec.Node)), .d (.v (.int .i64 y11.Spec.Priority)), .d (.v (.int .i64 y11.Spec.Restart)), .d (.v (.int .i64 y11.Spec.Grace)), .d (.sl (y11.Spec.Containers.map eContainer)), .d (.sl (y11.Spec.NodeSelector.map eRequirement)), .d (.sl (y11.Spec.NodeTerms.map eNodeTerm)), .d (.sl (y11.Spec.PodTerms.map ePodTerm)), .d (.sl (y11.Spec.Spread.map eSpreadRule)), .d (.sl (y11.Spec.Tolerations.map eToleration)), .d (.v (.int .i64 y11.Status.Phase)), .d (.v (.bool y11.Status.Ready)), .d (.v (.int .i64 y11.Status.ReadySince)), .d (.v (.int .i64 y11.Status.Started)), .d (.v (.int .i64 y11.Status.Finished)), .d (.sl (y11.Status.Containers.map eContainerStatus)), .d (.v (.int .i64 y11.Status.Address)), .d (.v (.string y11.Status.Nominated)), .d (.v (.string y11.Status.Reason))])]⟩) ?_ ?_
              · have h := ho
                clear ho
                simp only [VW.down, Nat.reduceEqDiff, reduceCtorEq, Nat.reduceAdd, Nat.reduceLeDiff, Nat.reduceLT, Nat.reduceBEq, Nat.reduceSub, EE.down]
                refine guardSB (fun g14 => ?_) (fun g14 => ?_)
                · have h := (if_pos g14).symm.trans h
                  simp only [VW.down, Nat.reduceEqDiff, reduceCtorEq, Nat.reduceAdd, Nat.reduceLeDiff, Nat.reduceLT, Nat.reduceBEq, Nat.reduceSub, EE.down]
                  obtain rfl := Option.some.inj h
                  exact eM [some 0, some 1] rfl
                · have h := (if_neg g14).symm.trans h
                  simp only [VW.down, Nat.reduceEqDiff, reduceCtorEq, Nat.reduceAdd, Nat.reduceLeDiff, Nat.reduceLT, Nat.reduceBEq, Nat.reduceSub, EE.down]
                  refine guardS (fun g15 => ?_) (fun g15 => ?_)
                  · have h := (if_pos g15).symm.trans h
                    simp only [VW.down, Nat.reduceEqDiff, reduceCtorEq, Nat.reduceAdd, Nat.reduceLeDiff, Nat.reduceLT, Nat.reduceBEq, Nat.reduceSub, EE.down]
                    obtain rfl := Option.some.inj h
                    exact eM [some 0, some 1] rfl
                  · have h := (if_neg g15).symm.trans h
                    simp only [VW.down, Nat.reduceEqDiff, reduceCtorEq, Nat.reduceAdd, Nat.reduceLeDiff, Nat.reduceLT, Nat.reduceBEq, Nat.reduceSub, EE.down]
                    obtain rfl := Option.some.inj h
                    exact eM [some 0, some 1] rfl
              · rintro _ rfl
                clear ho
                simp only [VW.down, Nat.reduceEqDiff, reduceCtorEq, Nat.reduceAdd, Nat.reduceLeDiff, Nat.reduceLT, Nat.reduceBEq, Nat.reduceSub, EE.down]
                refine condB (fun c16 => ?_) (fun c16 => ?_)
                · have h := (if_pos c16).symm.trans h
                  simp only [VW.down, Nat.reduceEqDiff, reduceCtorEq, Nat.reduceAdd, Nat.reduceLeDiff, Nat.reduceLT, Nat.reduceBEq, Nat.reduceSub, EE.down]
                  obtain rfl := Option.some.inj h
                  exact eM [some 0] rfl
                · have h := (if_neg c16).symm.trans h
                  simp only [VW.down, Nat.reduceEqDiff, reduceCtorEq, Nat.reduceAdd, Nat.reduceLeDiff, Nat.reduceLT, Nat.reduceBEq, Nat.reduceSub, EE.down]
                  obtain ⟨y17, hy17, h⟩ := Option.bind_eq_some_iff.1 h
                  refine t_idxF (enc := eNode) (xs := x0) rfl rfl hy17 rfl ?_
                  simp only [VW.down, Nat.reduceEqDiff, reduceCtorEq, Nat.reduceAdd, Nat.reduceLeDiff, Nat.reduceLT, Nat.reduceBEq, Nat.reduceSub, EE.down]
                  obtain ⟨t18, ht18, h⟩ := Option.bind_eq_some_iff.1 h
                  refine callX_n [] (F39_ok ht18) ?_ ?_ ?_ ?_ ?_ ?_
                  · first | rfl | simp [nrmA, nrmC, nrm, A1.ren, C.ren, rn, List.length_set]
                  · simp [liveAll, A1.live, C.live]
                  · rfl
                  · decide
                  · exact trivial
                  simp only [VW.down, Nat.reduceEqDiff, reduceCtorEq, Nat.reduceAdd, Nat.reduceLeDiff, Nat.reduceLT, Nat.reduceBEq, Nat.reduceSub, EE.down]
                  obtain ⟨t19, ht19, h⟩ := Option.bind_eq_some_iff.1 h
                  refine callX_n [] (F38_ok ht19) ?_ ?_ ?_ ?_ ?_ ?_
                  · first | rfl | simp [nrmA, nrmC, nrm, A1.ren, C.ren, rn, List.length_set]
                  · simp [liveAll, A1.live, C.live]
                  · rfl
                  · decide
                  · exact trivial
                  simp only [VW.down, Nat.reduceEqDiff, reduceCtorEq, Nat.reduceAdd, Nat.reduceLeDiff, Nat.reduceLT, Nat.reduceBEq, Nat.reduceSub, EE.down]
                  obtain ⟨o20, ho, h⟩ := Option.bind_eq_some_iff.1 h
                  refine cutS (fun s => s = ⟨[(0, .one (.c (.d (.sl (x0.map eNode))))), (1, .one (.c (.d (.sl (x1.map ePod))))), (2, .one (.c (.d (.v (.int .i64 x2))))), (7, .one (.c (.d (.v (.bool o1))))), (9, .one (.c (.own 0 0 0 (o6_0.length) none))), (10, .one (.c (.d (.v (.int .i64 o6_1))))), (11, .one (.c (.pt 1 0))), (80, .one (.c (.d (.v (.bool o20)))))], [some (.arr 0 1 (o6_0.map eS)), some (.box [.d (.v (.string y11.Meta.Kind)), .d (.v (.string y11.Meta.Namespace)), .d (.v (.string y11.Meta.Name)), .d (.v (.int .i64 y11.Meta.Uid)), .d (.v (.int .i64 y11.Meta.Version)), .d (.v (.int .i64 y11.Meta.Generation)), .d (.v (.int .i64 y11.Meta.Created)), .d (.v (.bool y11.Meta.Deleting)), .d (.v (.int .i64 y11.Meta.DeleteAt)), .d (.sl (y11.Meta.Labels.map eLabel)), .d (.sl (y11.Meta.Owners.map eOwner)), .d (.sl (y11.Meta.Finalizers.map eS)), .d (.sl (y11.Meta.Managers.map eManager)), .d (.v (.string y11.Spec.Node)), .d (.v (.int .i64 y11.Spec.Priority)), .d (.v (.int .i64 y11.Spec.Restart)), .d (.v (.int .i64 y11.Spec.Grace)), .d (.sl (y11.Spec.Containers.map eContainer)), .d (.sl (y11.Spec.NodeSelector.map eRequirement)), .d (.sl (y11.Spec.NodeTerms.map eNodeTerm)), .d (.sl (y11.Spec.PodTerms.map ePodTerm)), .d (.sl (y11.Spec.Spread.map eSpreadRule)), .d (.sl (y11.Spec.Tolerations.map eToleration)), .d (.v (.int .i64 y11.Status.Phase)), .d (.v (.bool y11.Status.Ready)), .d (.v (.int .i64 y11.Status.ReadySince)), .d (.v (.int .i64 y11.Status.Started)), .d (.v (.int .i64 y11.Status.Finished)), .d (.sl (y11.Status.Containers.map eContainerStatus)), .d (.v (.int .i64 y11.Status.Address)), .d (.v (.string y11.Status.Nominated)), .d (.v (.string y11.Status.Reason))])]⟩) ?_ ?_
                  · have h := ho
                    clear ho
                    simp only [VW.down, Nat.reduceEqDiff, reduceCtorEq, Nat.reduceAdd, Nat.reduceLeDiff, Nat.reduceLT, Nat.reduceBEq, Nat.reduceSub, EE.down]
                    refine guardSB (fun g21 => ?_) (fun g21 => ?_)
                    · have h := (if_pos g21).symm.trans h
                      simp only [VW.down, Nat.reduceEqDiff, reduceCtorEq, Nat.reduceAdd, Nat.reduceLeDiff, Nat.reduceLT, Nat.reduceBEq, Nat.reduceSub, EE.down]
                      obtain ⟨t22, ht22, h⟩ := Option.bind_eq_some_iff.1 h
                      refine callX_n [] (F28_ok ht22) ?_ ?_ ?_ ?_ ?_ ?_
                      · first | rfl | simp [nrmA, nrmC, nrm, A1.ren, C.ren, rn, List.length_set]
                      · simp [liveAll, A1.live, C.live]
                      · rfl
                      · decide
                      · exact trivial
                      simp only [VW.down, Nat.reduceEqDiff, reduceCtorEq, Nat.reduceAdd, Nat.reduceLeDiff, Nat.reduceLT, Nat.reduceBEq, Nat.reduceSub, EE.down]
                      obtain rfl := Option.some.inj h
                      exact eM [some 0, some 1] rfl
                    · have h := (if_neg g21).symm.trans h
                      simp only [VW.down, Nat.reduceEqDiff, reduceCtorEq, Nat.reduceAdd, Nat.reduceLeDiff, Nat.reduceLT, Nat.reduceBEq, Nat.reduceSub, EE.down]
                      obtain rfl := Option.some.inj h
                      exact eM [some 0, some 1] rfl
                  · rintro _ rfl
                    clear ho
                    simp only [VW.down, Nat.reduceEqDiff, reduceCtorEq, Nat.reduceAdd, Nat.reduceLeDiff, Nat.reduceLT, Nat.reduceBEq, Nat.reduceSub, EE.down]
                    refine condB (fun c23 => ?_) (fun c23 => ?_)
                    · have h := (if_pos c23).symm.trans h
                      simp only [VW.down, Nat.reduceEqDiff, reduceCtorEq, Nat.reduceAdd, Nat.reduceLeDiff, Nat.reduceLT, Nat.reduceBEq, Nat.reduceSub, EE.down]
                      obtain ⟨t24, ht24, h⟩ := Option.bind_eq_some_iff.1 h
                      refine callX_n [] (F41_ok ht24) ?_ ?_ ?_ ?_ ?_ ?_
                      · first | rfl | simp [nrmA, nrmC, nrm, A1.ren, C.ren, rn, List.length_set]
                      · simp [liveAll, A1.live, C.live]
                      · rfl
                      · decide
                      · exact trivial
                      simp only [VW.down, Nat.reduceEqDiff, reduceCtorEq, Nat.reduceAdd, Nat.reduceLeDiff, Nat.reduceLT, Nat.reduceBEq, Nat.reduceSub, EE.down]
                      obtain ⟨t25, ht25, h⟩ := Option.bind_eq_some_iff.1 h
                      refine callX_borF (F40_ok ht25) (by simp only [borAs, bors, hp, List.getElem?_cons_zero, List.getElem?_cons_succ, Option.join_some, List.drop_zero, bor_full', true_and, Nat.zero_add, List.length_map, Nat.le_refl, nrm, List.length_cons, List.length_nil, Nat.reduceAdd, Nat.reduceLeDiff, List.take_succ_cons, List.take_zero, List.take_nil, List.map_cons, List.map_nil, List.length_set, EE.down]) rfl ⟨flat_rows (enc := eS) (fun _ => rfl) _, trivial⟩ ?_
                      simp only [VW.down, Nat.reduceEqDiff, reduceCtorEq, Nat.reduceAdd, Nat.reduceLeDiff, Nat.reduceLT, Nat.reduceBEq, Nat.reduceSub, EE.down]
                      obtain rfl := Option.some.inj h
                      exact eM [some 2] rfl
                    · have h := (if_neg c23).symm.trans h
                      simp only [VW.down, Nat.reduceEqDiff, reduceCtorEq, Nat.reduceAdd, Nat.reduceLeDiff, Nat.reduceLT, Nat.reduceBEq, Nat.reduceSub, EE.down]
                      obtain rfl := Option.some.inj h
                      exact eM [some 0] rfl
            · rintro _ rfl
              clear ho
              simp only [VW.down, Nat.reduceEqDiff, reduceCtorEq, Nat.reduceAdd, Nat.reduceLeDiff, Nat.reduceLT, Nat.reduceBEq, Nat.reduceSub, EE.down]
              exact eL' j [some 0] ⟨o10, (IntKind.i64.wrap (o6_1 + 1)), rfl, h⟩ (Nat.lt_succ_self _)
          · have h := (if_neg c9).symm.trans h
            simp only [VW.down, Nat.reduceEqDiff, reduceCtorEq, Nat.reduceAdd, Nat.reduceLeDiff, Nat.reduceLT, Nat.reduceBEq, Nat.reduceSub, EE.down]
            obtain rfl := Option.some.inj h
            exact eM [some 0] rfl
    · rintro _ rfl
      clear ho
      simp only [VW.down, Nat.reduceEqDiff, reduceCtorEq, Nat.reduceAdd, Nat.reduceLeDiff, Nat.reduceLT, Nat.reduceBEq, Nat.reduceSub, EE.down]
      obtain rfl := Option.some.inj h
      exact eF [some 0]

/- orchestrator/orchestratorref54.Strings -/
def F12_l2 (x1 : (List ByteArray)) : List ByteArray → Nat → Option ((Bool) ⊕ (Unit))
  | [], o2_0 => some (Sum.inr (()))
  | xo2 :: xs, o2_0 => (rdI x1 ((o2_0 : Int))).bind fun y4 => (if ¬ (xo2 = y4) then (some false).map Sum.inl else F12_l2 x1 xs (o2_0 + 1))
def F12 (x0 : (List ByteArray)) (x1 : (List ByteArray)) : Option (Bool) := (if ¬ ((x0.length : Int) = (x1.length : Int)) then some false else (((ck (0 ≤ x0.length ∧ x0.length ≤ 4294967290)).bind fun u6 => F12_l2 x1 x0 0).bind fun o2 => match o2 with | Sum.inl f => some f | Sum.inr po2 => some true))
def a12 : AFn := ⟨26, [(.tmp 4)],
 (.seq (.reg [⟨(some 4), none, .mv (kB false), [], (.new [])⟩])
 (.seq (.seq (.reg [⟨(some 6), none, .mv (.t 0), [], (.new [])⟩,
   ⟨(some 7), none, .len (.t 6), [], (.new [])⟩,
   ⟨(some 8), none, .mv (.t 1), [], (.new [])⟩,
   ⟨(some 9), none, .len (.t 8), [], (.new [])⟩,
   ⟨(some 10), none, .bin .neq (.t 7) (.t 9), [], (.new [])⟩])
 (.cond (.t 10)
 (.seq (.reg [⟨(some 4), none, .mv (kB false), [], (.new [])⟩])
 .ret)
 .skip))
 (.seq (.seq (.reg [⟨(some 5), none, .mv (kI 0), [], (.new [])⟩])
 (.sem (.block 0 (.loop (.seq (.seq (.reg [⟨(some 11), none, .mv (.t 5), [], (.new [])⟩,
   ⟨(some 12), none, .mv (.t 0), [], (.new [])⟩,
   ⟨(some 13), none, .len (.t 12), [], (.new [])⟩,
   ⟨(some 14), none, .bin .lss (.t 11) (.t 13), [], (.new [])⟩])
 (.cond (.t 14)
 .skip
 (.exit 0)))
 (.seq (.block 1 (.seq (.regd [⟨(some 17), none, .mv (.t 0), [], (.new [])⟩,
   ⟨(some 18), none, .mv (.t 5), [], (.new [])⟩,
   ⟨(some 19), none, .indexA 1 (.t 17) (.t 18), [0, 1], (.new [])⟩,
   ⟨(some 20), none, .load none (.t 19), [0, 1, 2], (.new [])⟩,
   ⟨(some 21), none, .mv (.t 1), [], (.new [])⟩,
   ⟨(some 22), none, .mv (.t 5), [], (.new [])⟩,
   ⟨(some 23), none, .indexA 1 (.t 21) (.t 22), [4, 5], (.new [])⟩,
   ⟨(some 24), none, .load none (.t 23), [4, 5, 6], (.new [])⟩,
   ⟨(some 25), none, .bin .neq (.t 20) (.t 24), [0, 1, 2, 3, 4, 5, 6, 7], (.new [])⟩])
 (.cond (.t 25)
 (.seq (.reg [⟨(some 4), none, .mv (kB false), [], (.new [])⟩])
 .ret)
 .skip)))
 (.reg [⟨(some 15), none, .mv (.t 5), [], (.new [])⟩,
   ⟨(some 16), none, .bin .add (.t 15) (kI 1), [], (.new [])⟩,
   ⟨(some 5), none, .mv (.t 16), [], (.new [])⟩])))))))
 (.seq (.reg [⟨(some 4), none, .mv (kB true), [], (.new [])⟩])
 .ret))))⟩
theorem a12_ok : afn Try.prog 12 = some a12.er := by kernel_rfl
theorem F12_ok {x0 : (List ByteArray)} {x1 : (List ByteArray)} {r : Bool} (h : F12 x0 x1 = some r) : CallD Try.prog 12 [.c (.d (.sl (x0.map eS))), .c (.d (.sl (x1.map eS)))] [] (tupV [.c (.d (.v (.bool r)))]) [] := by
  refine callS a12_ok (by simp [a12]) ?_
  rw [F12] at h
  simp only [a12, VW.down, Nat.reduceEqDiff, reduceCtorEq, Nat.reduceAdd, Nat.reduceLeDiff, Nat.reduceLT, Nat.reduceBEq, Nat.reduceSub, EE.down]
  refine condS (fun c1 => ?_) (fun c1 => ?_)
  · have h := (if_pos c1).symm.trans h
    simp only [VW.down, Nat.reduceEqDiff, reduceCtorEq, Nat.reduceAdd, Nat.reduceLeDiff, Nat.reduceLT, Nat.reduceBEq, Nat.reduceSub, EE.down]
    obtain rfl := Option.some.inj h
    exact eF []
  · have h := (if_neg c1).symm.trans h
    simp only [VW.down, Nat.reduceEqDiff, reduceCtorEq, Nat.reduceAdd, Nat.reduceLeDiff, Nat.reduceLT, Nat.reduceBEq, Nat.reduceSub, EE.down]
    obtain ⟨o2, ho, h⟩ := Option.bind_eq_some_iff.1 h
    refine cutS (fun s => ∃ po2, o2 = Sum.inr po2 ∧ s = ⟨[], []⟩) ?_ ?_
    · have h0o2 := h
      have h := ho
      clear ho
      obtain ⟨_, hk, h⟩ := Option.bind_eq_some_iff.1 h
      have hk := ck_some hk
      simp only [VW.down, Nat.reduceEqDiff, reduceCtorEq, Nat.reduceAdd, Nat.reduceLeDiff, Nat.reduceLT, Nat.reduceBEq, Nat.reduceSub, EE.down]
      refine bL (fun j s => ∃ (o2_0 : Nat), (o2_0 ≤ x0.length ∧ j = x0.length - o2_0) ∧ s = ⟨[(0, .one (.c (.d (.sl (x0.map eS))))), (1, .one (.c (.d (.sl (x1.map eS))))), (5, .one (.c (.d (.v (.int .i64 ((o2_0 : Int)))))))], []⟩ ∧ F12_l2 x1 (x0.drop o2_0) o2_0 = some o2) (x0.length - 0) [] ⟨0, ⟨hk.1, rfl⟩, rfl, h⟩ ?_
      rintro _ _ ⟨o2_0, ⟨hi, rfl⟩, rfl, h⟩
      simp only [VW.down, Nat.reduceEqDiff, reduceCtorEq, Nat.reduceAdd, Nat.reduceLeDiff, Nat.reduceLT, Nat.reduceBEq, Nat.reduceSub, EE.down]
      refine condS (fun c3 => ?_) (fun c3 => ?_)
      · obtain ⟨xo2, hxo2, hd⟩ := countY (show (o2_0 : Int) < (x0.length : Int) from c3)
        rw [hd, F12_l2] at h
        simp only [VW.down, Nat.reduceEqDiff, reduceCtorEq, Nat.reduceAdd, Nat.reduceLeDiff, Nat.reduceLT, Nat.reduceBEq, Nat.reduceSub, EE.down]
        refine t_idxF (enc := eS) (xs := x0) rfl rfl hxo2 rfl ?_
        simp only [VW.down, Nat.reduceEqDiff, reduceCtorEq, Nat.reduceAdd, Nat.reduceLeDiff, Nat.reduceLT, Nat.reduceBEq, Nat.reduceSub, EE.down]
        obtain ⟨y4, hy4, h⟩ := Option.bind_eq_some_iff.1 h
        refine t_idxF (enc := eS) (xs := x1) rfl rfl hy4 rfl ?_
        simp only [VW.down, Nat.reduceEqDiff, reduceCtorEq, Nat.reduceAdd, Nat.reduceLeDiff, Nat.reduceLT, Nat.reduceBEq, Nat.reduceSub, EE.down]
        refine condS (fun c5 => ?_) (fun c5 => ?_)
        · have h := (if_pos c5).symm.trans h
          simp only [VW.down, Nat.reduceEqDiff, reduceCtorEq, Nat.reduceAdd, Nat.reduceLeDiff, Nat.reduceLT, Nat.reduceBEq, Nat.reduceSub, EE.down]
          obtain ⟨fh0o2, hfh0o2, rfl⟩ := Option.map_eq_some_iff.1 h
          have h := hfh0o2.trans h0o2
          obtain rfl := Option.some.inj h
          exact eF []
        · have h := (if_neg c5).symm.trans h
          simp only [VW.down, Nat.reduceEqDiff, reduceCtorEq, Nat.reduceAdd, Nat.reduceLeDiff, Nat.reduceLT, Nat.reduceBEq, Nat.reduceSub, EE.down]
          rw [wrapN (by omega)]
          exact eL' (x0.length - (o2_0 + 1)) [] ⟨o2_0 + 1, ⟨by omega, rfl⟩, rfl, h⟩ (by omega)
      · rw [countN (show ¬ ((o2_0 : Int) < (x0.length : Int)) from c3), F12_l2] at h
        simp only [VW.down, Nat.reduceEqDiff, reduceCtorEq, Nat.reduceAdd, Nat.reduceLeDiff, Nat.reduceLT, Nat.reduceBEq, Nat.reduceSub, EE.down]
        obtain rfl := Option.some.inj h
        exact eM [] ⟨_, rfl, rfl⟩
    · rintro _ ⟨po2, rfl, rfl⟩
      clear ho
      dsimp only at h
      simp only [VW.down, Nat.reduceEqDiff, reduceCtorEq, Nat.reduceAdd, Nat.reduceLeDiff, Nat.reduceLT, Nat.reduceBEq, Nat.reduceSub, EE.down]
      obtain rfl := Option.some.inj h
      exact eF []

/- orchestrator/orchestratorref54.Gone -/
def F16_l1 (x0 : (List Node)) : List Pod → Nat → (List ByteArray) → Option ((List ByteArray))
  | [], o1_1, o1_0 => some o1_0
  | xo1 :: xs, o1_1, o1_0 => (((((if ¬ (xo1.Spec.Node = (⟨#[]⟩ : ByteArray)) then (F37 x0 xo1.Spec.Node).bind fun t6 => some (decide (t6 < 0)) else some false)).bind fun o4 => (if o4 = true then (F41 xo1.Meta).bind fun t8 => (F40 o1_0 t8).bind fun t9 => some t9 else some o1_0))).bind fun o3 => F16_l1 x0 xs (o1_1 + 1) o3)
def F16 (x0 : (List Node)) (x1 : (List Pod)) : Option ((List ByteArray)) := (((ck (0 ≤ x1.length ∧ x1.length ≤ 4294967290)).bind fun u10 => F16_l1 x0 x1 0 ([])).bind fun o1 => some o1)
def a16 : AFn := ⟨40, [(.tmp 4)],
 (.seq (.reg [⟨(some 4), none, .mv kN, [], (.new [])⟩])
 (.seq (.reg [⟨(some 5), none, .mv kN, [], (.new [])⟩])
 (.seq (.seq (.reg [⟨(some 6), none, .mv (kI 0), [], (.new [])⟩])
 (.sem (.block 0 (.loop (.seq (.seq (.reg [⟨(some 7), none, .mv (.t 6), [], (.new [])⟩,
   ⟨(some 8), none, .mv (.t 1), [], (.new [])⟩,
   ⟨(some 9), none, .len (.t 8), [], (.new [])⟩,
   ⟨(some 10), none, .bin .lss (.t 7) (.t 9), [], (.new [])⟩])
 (.cond (.t 10)
 .skip
 (.exit 0)))
 (.seq (.sem (.block 1 (.seq (.sem (.reg [⟨(some 13), none, .mv (.t 1), [], (.new [])⟩,
   ⟨(some 14), none, .mv (.t 6), [], (.new [])⟩,
   ⟨(some 15), none, .indexA 32 (.t 13) (.t 14), [], (.new [])⟩,
   ⟨(some 16), none, .fieldA 13 (.t 15), [], (.new [])⟩,
   ⟨(some 17), none, .fieldA 0 (.t 16), [], (.new [])⟩,
   ⟨(some 18), none, .load none (.t 17), [], (.new [])⟩,
   ⟨(some 19), none, .bin .neq (.t 18) (kS ⟨#[]⟩), [], (.new [])⟩,
   ⟨(some 20), none, .mv (.t 19), [], (.new [])⟩,
   ⟨(some 21), (some (20, true)), .mv (.t 0), [], (.new [])⟩,
   ⟨(some 22), (some (20, true)), .mv (.t 1), [], (.new [])⟩,
   ⟨(some 23), (some (20, true)), .mv (.t 6), [], (.new [])⟩,
   ⟨(some 24), (some (20, true)), .indexA 32 (.t 22) (.t 23), [], (.new [])⟩,
   ⟨(some 25), (some (20, true)), .fieldA 13 (.t 24), [], (.new [])⟩,
   ⟨(some 26), (some (20, true)), .fieldA 0 (.t 25), [], (.new [])⟩,
   ⟨(some 27), (some (20, true)), .load none (.t 26), [], (.new [])⟩,
   ⟨(some 28), (some (20, true)), .call 37 [(.t 21), (.t 27)], [], (.new [])⟩,
   ⟨(some 29), (some (20, true)), .bin .lss (.t 28) (kI 0), [], (.new [])⟩,
   ⟨(some 30), none, .pick (.t 20) (.t 29) (kB false), [], (.new [])⟩]))
 (.cond (.t 30)
 (.reg [⟨(some 31), none, .mv (.t 5), [], (.new [])⟩,
   ⟨(some 32), none, .mv (.t 1), [], (.new [])⟩,
   ⟨(some 33), none, .mv (.t 6), [], (.new [])⟩,
   ⟨(some 34), none, .indexA 32 (.t 32) (.t 33), [], (.new [])⟩,
   ⟨(some 35), none, .fieldA 0 (.t 34), [], (.new [])⟩,
   ⟨(some 36), none, .load (some 13) (.t 35), [], (.new [])⟩,
   ⟨(some 37), none, .call 41 [(.t 36)], [], (.new [])⟩,
   ⟨(some 38), none, .call 40 [(.t 31), (.t 37)], [], (.new [])⟩,
   ⟨(some 5), none, .mv (.t 38), [], (.new [])⟩])
 .skip))))
 (.reg [⟨(some 11), none, .mv (.t 6), [], (.new [])⟩,
   ⟨(some 12), none, .bin .add (.t 11) (kI 1), [], (.new [])⟩,
   ⟨(some 6), none, .mv (.t 12), [], (.new [])⟩])))))))
 (.seq (.reg [⟨(some 39), none, .mv (.t 5), [], (.new [])⟩,
   ⟨(some 4), none, .mv (.t 39), [], (.new [])⟩])
 .ret))))⟩
theorem a16_ok : afn Try.prog 16 = some a16.er := by kernel_rfl
theorem F16_ok {x0 : (List Node)} {x1 : (List Pod)} {r : (List ByteArray)} (h : F16 x0 x1 = some r) : CallD Try.prog 16 [.c (.d (.sl (x0.map eNode))), .c (.d (.sl (x1.map ePod)))] [] (tupV [.c (.own 0 0 0 (r.length) none)]) [some (.arr 0 1 (r.map eS))] := by
  refine callS a16_ok (by simp [a16]) ?_
  rw [F16] at h
  simp only [a16, VW.down, Nat.reduceEqDiff, reduceCtorEq, Nat.reduceAdd, Nat.reduceLeDiff, Nat.reduceLT, Nat.reduceBEq, Nat.reduceSub, EE.down]
  obtain ⟨o1, ho, h⟩ := Option.bind_eq_some_iff.1 h
  refine cutS (fun s => s = ⟨[(5, .one (.c (.own 0 0 0 (o1.length) none)))], [some (.arr 0 1 (o1.map eS))]⟩) ?_ ?_
  · have h := ho
    clear ho
    obtain ⟨_, hk, h⟩ := Option.bind_eq_some_iff.1 h
    have hk := ck_some hk
    simp only [VW.down, Nat.reduceEqDiff, reduceCtorEq, Nat.reduceAdd, Nat.reduceLeDiff, Nat.reduceLT, Nat.reduceBEq, Nat.reduceSub, EE.down]
    refine bL (fun j s => ∃ (o1_1 : Nat) (o1_0 : List ByteArray), (o1_1 ≤ x1.length ∧ j = x1.length - o1_1) ∧ s = ⟨[(0, .one (.c (.d (.sl (x0.map eNode))))), (1, .one (.c (.d (.sl (x1.map ePod))))), (5, .one (.c (.own 0 0 0 (o1_0.length) none))), (6, .one (.c (.d (.v (.int .i64 ((o1_1 : Int)))))))], [some (.arr 0 1 (o1_0.map eS))]⟩ ∧ F16_l1 x0 (x1.drop o1_1) o1_1 o1_0 = some o1) (x1.length - 0) [none] ⟨0, [], ⟨hk.1, rfl⟩, rfl, h⟩ ?_
    rintro _ _ ⟨o1_1, o1_0, ⟨hi, rfl⟩, rfl, h⟩
    simp only [VW.down, Nat.reduceEqDiff, reduceCtorEq, Nat.reduceAdd, Nat.reduceLeDiff, Nat.reduceLT, Nat.reduceBEq, Nat.reduceSub, EE.down]
    refine condS (fun c2 => ?_) (fun c2 => ?_)
    · obtain ⟨xo1, hxo1, hd⟩ := countY (show (o1_1 : Int) < (x1.length : Int) from c2)
      rw [hd, F16_l1] at h
      simp only [VW.down, Nat.reduceEqDiff, reduceCtorEq, Nat.reduceAdd, Nat.reduceLeDiff, Nat.reduceLT, Nat.reduceBEq, Nat.reduceSub, EE.down]
      obtain ⟨o3, ho, h⟩ := Option.bind_eq_some_iff.1 h
      refine cutS (fun s => s = ⟨[(0, .one (.c (.d (.sl (x0.map eNode))))), (1, .one (.c (.d (.sl (x1.map ePod))))), (5, .one (.c (.own 0 0 0 (o3.length) none))), (6, .one (.c (.d (.v (.int .i64 ((o1_1 : Int)))))))], [some (.arr 0 1 (o3.map eS))]⟩) ?_ ?_
      · have h := ho
        clear ho
        simp only [VW.down, Nat.reduceEqDiff, reduceCtorEq, Nat.reduceAdd, Nat.reduceLeDiff, Nat.reduceLT, Nat.reduceBEq, Nat.reduceSub, EE.down]
        obtain ⟨o4, ho, h⟩ := Option.bind_eq_some_iff.1 h
        refine cutS (fun s => s = ⟨[(0, .one (.c (.d (.sl (x0.map eNode))))), (1, .one (.c (.d (.sl (x1.map ePod))))), (5, .one (.c (.own 0 0 0 (o1_0.length) none))), (6, .one (.c (.d (.v (.int .i64 ((o1_1 : Int))))))), (30, .one (.c (.d (.v (.bool o4)))))], [some (.arr 0 1 (o1_0.map eS))]⟩) ?_ ?_
        · have h := ho
          clear ho
          simp only [VW.down, Nat.reduceEqDiff, reduceCtorEq, Nat.reduceAdd, Nat.reduceLeDiff, Nat.reduceLT, Nat.reduceBEq, Nat.reduceSub, EE.down]
          refine t_idxF (enc := ePod) (xs := x1) rfl rfl hxo1 rfl ?_
          simp only [VW.down, Nat.reduceEqDiff, reduceCtorEq, Nat.reduceAdd, Nat.reduceLeDiff, Nat.reduceLT, Nat.reduceBEq, Nat.reduceSub, EE.down]
          refine guardS (fun g5 => ?_) (fun g5 => ?_)
          · have h := (if_pos g5).symm.trans h
            simp only [VW.down, Nat.reduceEqDiff, reduceCtorEq, Nat.reduceAdd, Nat.reduceLeDiff, Nat.reduceLT, Nat.reduceBEq, Nat.reduceSub, EE.down]
            refine t_idxF (enc := ePod) (xs := x1) rfl rfl hxo1 rfl ?_
            simp only [VW.down, Nat.reduceEqDiff, reduceCtorEq, Nat.reduceAdd, Nat.reduceLeDiff, Nat.reduceLT, Nat.reduceBEq, Nat.reduceSub, EE.down]
            obtain ⟨t6, ht6, h⟩ := Option.bind_eq_some_iff.1 h
            refine callX_n [] (F37_ok ht6) ?_ ?_ ?_ ?_ ?_ ?_
            · first | rfl | simp [nrmA, nrmC, nrm, A1.ren, C.ren, rn, List.length_set]
            · simp [liveAll, A1.live, C.live]
            · rfl
            · decide
            · exact trivial
            simp only [VW.down, Nat.reduceEqDiff, reduceCtorEq, Nat.reduceAdd, Nat.reduceLeDiff, Nat.reduceLT, Nat.reduceBEq, Nat.reduceSub, EE.down]
            obtain rfl := Option.some.inj h
            exact eM [some 0] rfl
          · have h := (if_neg g5).symm.trans h
            simp only [VW.down, Nat.reduceEqDiff, reduceCtorEq, Nat.reduceAdd, Nat.reduceLeDiff, Nat.reduceLT, Nat.reduceBEq, Nat.reduceSub, EE.down]
            obtain rfl := Option.some.inj h
            exact eM [some 0] rfl
        · rintro _ rfl
          clear ho
          simp only [VW.down, Nat.reduceEqDiff, reduceCtorEq, Nat.reduceAdd, Nat.reduceLeDiff, Nat.reduceLT, Nat.reduceBEq, Nat.reduceSub, EE.down]
          refine condB (fun c7 => ?_) (fun c7 => ?_)
          · have h := (if_pos c7).symm.trans h
            simp only [VW.down, Nat.reduceEqDiff, reduceCtorEq, Nat.reduceAdd, Nat.reduceLeDiff, Nat.reduceLT, Nat.reduceBEq, Nat.reduceSub, EE.down]
            refine t_idxF (enc := ePod) (xs := x1) rfl rfl hxo1 rfl ?_
            simp only [VW.down, Nat.reduceEqDiff, reduceCtorEq, Nat.reduceAdd, Nat.reduceLeDiff, Nat.reduceLT, Nat.reduceBEq, Nat.reduceSub, EE.down]
            obtain ⟨t8, ht8, h⟩ := Option.bind_eq_some_iff.1 h
            refine callX_n [] (F41_ok ht8) ?_ ?_ ?_ ?_ ?_ ?_
            · first | rfl | simp [nrmA, nrmC, nrm, A1.ren, C.ren, rn, List.length_set]
            · simp [liveAll, A1.live, C.live]
            · rfl
            · decide
            · exact trivial
            simp only [VW.down, Nat.reduceEqDiff, reduceCtorEq, Nat.reduceAdd, Nat.reduceLeDiff, Nat.reduceLT, Nat.reduceBEq, Nat.reduceSub, EE.down]
            obtain ⟨t9, ht9, h⟩ := Option.bind_eq_some_iff.1 h
            refine callX_borF (F40_ok ht9) (by simp only [borAs, bors, hp, List.getElem?_cons_zero, List.getElem?_cons_succ, Option.join_some, List.drop_zero, bor_full', true_and, Nat.zero_add, List.length_map, Nat.le_refl, nrm, List.length_cons, List.length_nil, Nat.reduceAdd, Nat.reduceLeDiff, List.take_succ_cons, List.take_zero, List.take_nil, List.map_cons, List.map_nil, List.length_set, EE.down]) rfl ⟨flat_rows (enc := eS) (fun _ => rfl) _, trivial⟩ ?_
            simp only [VW.down, Nat.reduceEqDiff, reduceCtorEq, Nat.reduceAdd, Nat.reduceLeDiff, Nat.reduceLT, Nat.reduceBEq, Nat.reduceSub, EE.down]
            obtain rfl := Option.some.inj h
            exact eM [some 1] rfl
          · have h := (if_neg c7).symm.trans h
            simp only [VW.down, Nat.reduceEqDiff, reduceCtorEq, Nat.reduceAdd, Nat.reduceLeDiff, Nat.reduceLT, Nat.reduceBEq, Nat.reduceSub, EE.down]
            obtain rfl := Option.some.inj h
            exact eM [some 0] rfl
      · rintro _ rfl
        clear ho
        simp only [VW.down, Nat.reduceEqDiff, reduceCtorEq, Nat.reduceAdd, Nat.reduceLeDiff, Nat.reduceLT, Nat.reduceBEq, Nat.reduceSub, EE.down]
        rw [wrapN (by omega)]
        exact eL' (x1.length - (o1_1 + 1)) [some 0] ⟨o1_1 + 1, o3, ⟨by omega, rfl⟩, rfl, h⟩ (by omega)
    · rw [countN (show ¬ ((o1_1 : Int) < (x1.length : Int)) from c2), F16_l1] at h
      simp only [VW.down, Nat.reduceEqDiff, reduceCtorEq, Nat.reduceAdd, Nat.reduceLeDiff, Nat.reduceLT, Nat.reduceBEq, Nat.reduceSub, EE.down]
      obtain rfl := Option.some.inj h
      exact eM [some 0] rfl
  · rintro _ rfl
    clear ho
    simp only [VW.down, Nat.reduceEqDiff, reduceCtorEq, Nat.reduceAdd, Nat.reduceLeDiff, Nat.reduceLT, Nat.reduceBEq, Nat.reduceSub, EE.down]
    obtain rfl := Option.some.inj h
    exact eF [some 0]

/- orchestrator/orchestratorlaw54.NodelifeLeaves -/
def F4 (x0 : (List Node)) (x1 : (List Pod)) (x2 : Int) : Option (Bool) := (F11 x0 x1).bind fun t1 => (if (nb t1) = true then (F7).bind fun t3 => some t3 else (((F7).bind fun t5 => (if t5 = true then (F13 x0 x1 x2).bind fun t7 => (F14 x0 x1 x2).bind fun t8 => (F12 t7 t8).bind fun t9 => (if t9 = true then (F15 x0 x1).bind fun t11 => (F16 x0 x1).bind fun t12 => (F12 t11 t12).bind fun t13 => some t13 else some false) else some false)).bind fun o4 => some o4))
def a4 : AFn := ⟨33, [(.tmp 6)],
 (.seq (.reg [⟨(some 6), none, .mv (kB false), [], (.new [])⟩])
 (.seq (.seq (.reg [⟨(some 7), none, .mv (.t 0), [], (.new [])⟩,
   ⟨(some 8), none, .mv (.t 1), [], (.new [])⟩,
   ⟨(some 9), none, .call 11 [(.t 7), (.t 8)], [], (.new [])⟩,
   ⟨(some 10), none, .not (.t 9), [], (.new [])⟩])
 (.cond (.t 10)
 (.seq (.reg [⟨(some 11), none, .call 7 [], [], (.new [])⟩,
   ⟨(some 6), none, .mv (.t 11), [], (.new [])⟩])
 .ret)
 .skip))
 (.seq (.sem (.reg [⟨(some 12), none, .call 7 [], [], (.new [])⟩,
   ⟨(some 13), none, .mv (.t 12), [], (.new [])⟩,
   ⟨(some 14), (some (13, true)), .mv (.t 0), [], (.new [])⟩,
   ⟨(some 15), (some (13, true)), .mv (.t 1), [], (.new [])⟩,
   ⟨(some 16), (some (13, true)), .mv (.t 2), [], (.new [])⟩,
   ⟨(some 17), (some (13, true)), .call 13 [(.t 14), (.t 15), (.t 16)], [], (.new [])⟩,
   ⟨(some 18), (some (13, true)), .mv (.t 0), [], (.new [])⟩,
   ⟨(some 19), (some (13, true)), .mv (.t 1), [], (.new [])⟩,
   ⟨(some 20), (some (13, true)), .mv (.t 2), [], (.new [])⟩,
   ⟨(some 21), (some (13, true)), .call 14 [(.t 18), (.t 19), (.t 20)], [], (.new [])⟩,
   ⟨(some 22), (some (13, true)), .call 12 [(.t 17), (.t 21)], [], (.new [])⟩,
   ⟨(some 23), none, .pick (.t 13) (.t 22) (kB false), [], (.new [])⟩,
   ⟨(some 24), none, .mv (.t 23), [], (.new [])⟩,
   ⟨(some 25), (some (24, true)), .mv (.t 0), [], (.new [])⟩,
   ⟨(some 26), (some (24, true)), .mv (.t 1), [], (.new [])⟩,
   ⟨(some 27), (some (24, true)), .call 15 [(.t 25), (.t 26)], [], (.new [])⟩,
   ⟨(some 28), (some (24, true)), .mv (.t 0), [], (.new [])⟩,
   ⟨(some 29), (some (24, true)), .mv (.t 1), [], (.new [])⟩,
   ⟨(some 30), (some (24, true)), .call 16 [(.t 28), (.t 29)], [], (.new [])⟩,
   ⟨(some 31), (some (24, true)), .call 12 [(.t 27), (.t 30)], [], (.new [])⟩,
   ⟨(some 32), none, .pick (.t 24) (.t 31) (kB false), [], (.new [])⟩,
   ⟨(some 6), none, .mv (.t 32), [], (.new [])⟩]))
 .ret)))⟩
theorem a4_ok : afn Try.prog 4 = some a4.er := by kernel_rfl
theorem F4_ok {x0 : (List Node)} {x1 : (List Pod)} {x2 : Int} {r : Bool} (h : F4 x0 x1 x2 = some r) : CallD Try.prog 4 [.c (.d (.sl (x0.map eNode))), .c (.d (.sl (x1.map ePod))), .c (.d (.v (.int .i64 x2)))] [] (tupV [.c (.d (.v (.bool r)))]) [] := by
  refine callS a4_ok (by simp [a4]) ?_
  rw [F4] at h
  simp only [a4, VW.down, Nat.reduceEqDiff, reduceCtorEq, Nat.reduceAdd, Nat.reduceLeDiff, Nat.reduceLT, Nat.reduceBEq, Nat.reduceSub, EE.down]
  obtain ⟨t1, ht1, h⟩ := Option.bind_eq_some_iff.1 h
  refine callX_n [] (F11_ok ht1) ?_ ?_ ?_ ?_ ?_ ?_
  · first | rfl | simp [nrmA, nrmC, nrm, A1.ren, C.ren, rn, List.length_set]
  · simp [liveAll, A1.live, C.live]
  · rfl
  · decide
  · exact trivial
  simp only [VW.down, Nat.reduceEqDiff, reduceCtorEq, Nat.reduceAdd, Nat.reduceLeDiff, Nat.reduceLT, Nat.reduceBEq, Nat.reduceSub, EE.down]
  refine condB (fun c2 => ?_) (fun c2 => ?_)
  · have h := (if_pos c2).symm.trans h
    simp only [VW.down, Nat.reduceEqDiff, reduceCtorEq, Nat.reduceAdd, Nat.reduceLeDiff, Nat.reduceLT, Nat.reduceBEq, Nat.reduceSub, EE.down]
    obtain ⟨t3, ht3, h⟩ := Option.bind_eq_some_iff.1 h
    refine callX_n [] (F7_ok ht3) ?_ ?_ ?_ ?_ ?_ ?_
    · first | rfl | simp [nrmA, nrmC, nrm, A1.ren, C.ren, rn, List.length_set]
    · simp [liveAll, A1.live, C.live]
    · rfl
    · decide
    · exact trivial
    simp only [VW.down, Nat.reduceEqDiff, reduceCtorEq, Nat.reduceAdd, Nat.reduceLeDiff, Nat.reduceLT, Nat.reduceBEq, Nat.reduceSub, EE.down]
    obtain rfl := Option.some.inj h
    exact eF []
  · have h := (if_neg c2).symm.trans h
    simp only [VW.down, Nat.reduceEqDiff, reduceCtorEq, Nat.reduceAdd, Nat.reduceLeDiff, Nat.reduceLT, Nat.reduceBEq, Nat.reduceSub, EE.down]
    obtain ⟨o4, ho, h⟩ := Option.bind_eq_some_iff.1 h
    refine cutS (fun s => s = ⟨[(6, .one (.c (.d (.v (.bool o4)))))], []⟩) ?_ ?_
    · have h := ho
      clear ho
      simp only [VW.down, Nat.reduceEqDiff, reduceCtorEq, Nat.reduceAdd, Nat.reduceLeDiff, Nat.reduceLT, Nat.reduceBEq, Nat.reduceSub, EE.down]
      obtain ⟨t5, ht5, h⟩ := Option.bind_eq_some_iff.1 h
      refine callX_n [] (F7_ok ht5) ?_ ?_ ?_ ?_ ?_ ?_
      · first | rfl | simp [nrmA, nrmC, nrm, A1.ren, C.ren, rn, List.length_set]
      · simp [liveAll, A1.live, C.live]
      · rfl
      · decide
      · exact trivial
      simp only [VW.down, Nat.reduceEqDiff, reduceCtorEq, Nat.reduceAdd, Nat.reduceLeDiff, Nat.reduceLT, Nat.reduceBEq, Nat.reduceSub, EE.down]
      refine guardSB (fun g6 => ?_) (fun g6 => ?_)
      · have h := (if_pos g6).symm.trans h
        simp only [VW.down, Nat.reduceEqDiff, reduceCtorEq, Nat.reduceAdd, Nat.reduceLeDiff, Nat.reduceLT, Nat.reduceBEq, Nat.reduceSub, EE.down]
        obtain ⟨t7, ht7, h⟩ := Option.bind_eq_some_iff.1 h
        refine callX_n [] (F13_ok ht7) ?_ ?_ ?_ ?_ ?_ ?_
        · first | rfl | simp [nrmA, nrmC, nrm, A1.ren, C.ren, rn, List.length_set]
        · simp [liveAll, A1.live, C.live]
        · rfl
        · decide
        · exact trivial
        simp only [VW.down, Nat.reduceEqDiff, reduceCtorEq, Nat.reduceAdd, Nat.reduceLeDiff, Nat.reduceLT, Nat.reduceBEq, Nat.reduceSub, EE.down]
        obtain ⟨t8, ht8, h⟩ := Option.bind_eq_some_iff.1 h
        refine callX_n [] (F14_ok ht8) ?_ ?_ ?_ ?_ ?_ ?_
        · first | rfl | simp [nrmA, nrmC, nrm, A1.ren, C.ren, rn, List.length_set]
        · simp [liveAll, A1.live, C.live]
        · rfl
        · decide
        · exact trivial
        simp only [VW.down, Nat.reduceEqDiff, reduceCtorEq, Nat.reduceAdd, Nat.reduceLeDiff, Nat.reduceLT, Nat.reduceBEq, Nat.reduceSub, EE.down]
        obtain ⟨t9, ht9, h⟩ := Option.bind_eq_some_iff.1 h
        refine callX_bor (F12_ok ht9) (by simp only [borAs, bors, hp, List.getElem?_cons_zero, List.getElem?_cons_succ, Option.join_some, List.drop_zero, bor_full', true_and, Nat.zero_add, List.length_map, Nat.le_refl, nrm, List.length_cons, List.length_nil, Nat.reduceAdd, Nat.reduceLeDiff, List.take_succ_cons, List.take_zero, List.take_nil, List.map_cons, List.map_nil, List.length_set, EE.down]) rfl ?_
        simp only [VW.down, Nat.reduceEqDiff, reduceCtorEq, Nat.reduceAdd, Nat.reduceLeDiff, Nat.reduceLT, Nat.reduceBEq, Nat.reduceSub, EE.down]
        refine guardSB (fun g10 => ?_) (fun g10 => ?_)
        · have h := (if_pos g10).symm.trans h
          simp only [VW.down, Nat.reduceEqDiff, reduceCtorEq, Nat.reduceAdd, Nat.reduceLeDiff, Nat.reduceLT, Nat.reduceBEq, Nat.reduceSub, EE.down]
          obtain ⟨t11, ht11, h⟩ := Option.bind_eq_some_iff.1 h
          refine callX_n [] (F15_ok ht11) ?_ ?_ ?_ ?_ ?_ ?_
          · first | rfl | simp [nrmA, nrmC, nrm, A1.ren, C.ren, rn, List.length_set]
          · simp [liveAll, A1.live, C.live]
          · rfl
          · decide
          · exact trivial
          simp only [VW.down, Nat.reduceEqDiff, reduceCtorEq, Nat.reduceAdd, Nat.reduceLeDiff, Nat.reduceLT, Nat.reduceBEq, Nat.reduceSub, EE.down]
          obtain ⟨t12, ht12, h⟩ := Option.bind_eq_some_iff.1 h
          refine callX_n [] (F16_ok ht12) ?_ ?_ ?_ ?_ ?_ ?_
          · first | rfl | simp [nrmA, nrmC, nrm, A1.ren, C.ren, rn, List.length_set]
          · simp [liveAll, A1.live, C.live]
          · rfl
          · decide
          · exact trivial
          simp only [VW.down, Nat.reduceEqDiff, reduceCtorEq, Nat.reduceAdd, Nat.reduceLeDiff, Nat.reduceLT, Nat.reduceBEq, Nat.reduceSub, EE.down]
          obtain ⟨t13, ht13, h⟩ := Option.bind_eq_some_iff.1 h
          refine callX_bor (F12_ok ht13) (by simp only [borAs, bors, hp, List.getElem?_cons_zero, List.getElem?_cons_succ, Option.join_some, List.drop_zero, bor_full', true_and, Nat.zero_add, List.length_map, Nat.le_refl, nrm, List.length_cons, List.length_nil, Nat.reduceAdd, Nat.reduceLeDiff, List.take_succ_cons, List.take_zero, List.take_nil, List.map_cons, List.map_nil, List.length_set, EE.down]) rfl ?_
          simp only [VW.down, Nat.reduceEqDiff, reduceCtorEq, Nat.reduceAdd, Nat.reduceLeDiff, Nat.reduceLT, Nat.reduceBEq, Nat.reduceSub, EE.down]
          obtain rfl := Option.some.inj h
          exact eM [] rfl
        · have h := (if_neg g10).symm.trans h
          simp only [VW.down, Nat.reduceEqDiff, reduceCtorEq, Nat.reduceAdd, Nat.reduceLeDiff, Nat.reduceLT, Nat.reduceBEq, Nat.reduceSub, EE.down]
          obtain rfl := Option.some.inj h
          exact eM [] rfl
      · have h := (if_neg g6).symm.trans h
        simp only [VW.down, Nat.reduceEqDiff, reduceCtorEq, Nat.reduceAdd, Nat.reduceLeDiff, Nat.reduceLT, Nat.reduceBEq, Nat.reduceSub, EE.down]
        obtain rfl := Option.some.inj h
        exact eM [] rfl
    · rintro _ rfl
      clear ho
      simp only [VW.down, Nat.reduceEqDiff, reduceCtorEq, Nat.reduceAdd, Nat.reduceLeDiff, Nat.reduceLT, Nat.reduceBEq, Nat.reduceSub, EE.down]
      obtain rfl := Option.some.inj h
      exact eF []

end Go.Proofs.Ytihhlgbcbmoblaa
