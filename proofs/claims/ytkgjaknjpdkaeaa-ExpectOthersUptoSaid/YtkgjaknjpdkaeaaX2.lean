/- Each Go function as a function over typed data, and its walk. -/
import Derived.Test.YtkgjaknjpdkaeaaX
namespace Go.Proofs.Ytkgjaknjpdkaeaa
open Go Go.Fw Go.Shelf
set_option maxRecDepth 100000
set_option maxHeartbeats 4000000
set_option linter.unusedSimpArgs false
set_option linter.unusedVariables false
/- orchestrator/orchestratorref32.Deleted -/
def F15_l3 (t1 : Int) (x0 : (List Expectation)) (x2 : ByteArray) : Nat → (List ByteArray) → Int → Option ((List ByteArray))
  | 0, _, _ => none
  | k + 1, o3_0, o3_1 => (rdI x0 t1).bind fun y4 => (if o3_1 < (y4.Deletes.length : Int) then (((rdI y4.Deletes o3_1).bind fun y7 => (if ¬ (y7 = x2) then (apI o3_0 ([y7])).bind fun a9 => some a9 else some o3_0)).bind fun o6 => F15_l3 t1 x0 x2 k o6 ((IntKind.i64.wrap (o3_1 + 1)))) else some o3_0)
def F15 (x0 : (List Expectation)) (x1 : ByteArray) (x2 : ByteArray) : Option ((List Expectation)) := (F29 x0 x1).bind fun t1 => (if t1 < 0 then some x0 else ((F15_l3 t1 x0 x2 1099511627776 ([]) 0).bind fun o3 => (rdI x0 t1).bind fun y10 => (F27 x0 ((⟨x1, y10.Creates, o3, y10.Since⟩ : Expectation))).bind fun t11 => some t11))
def a15 : AFn := ⟨62, [(.tmp 6)],
 (.seq (.reg [⟨(some 6), none, .mv kN, [], (.new [])⟩])
 (.seq (.reg [⟨(some 10), none, .mv (.t 0), [], (.new [])⟩,
   ⟨(some 11), none, .mv (.t 1), [], (.new [])⟩,
   ⟨(some 12), none, .call 29 [(.t 10), (.t 11)], [], (.new [])⟩,
   ⟨(some 7), none, .mv (.t 12), [], (.new [])⟩])
 (.seq (.seq (.reg [⟨(some 13), none, .mv (.t 7), [], (.new [])⟩,
   ⟨(some 14), none, .bin .lss (.t 13) (kI 0), [], (.new [])⟩])
 (.cond (.t 14)
 (.seq (.reg [⟨(some 15), none, .mv (.t 0), [], (.new [])⟩,
   ⟨(some 6), none, .mv (.t 15), [], (.new [])⟩])
 .ret)
 .skip))
 (.seq (.reg [⟨(some 8), none, .mv kN, [], (.new [])⟩])
 (.seq (.seq (.reg [⟨(some 9), none, .mv (kI 0), [], (.new [])⟩])
 (.sem (.block 0 (.loop (.seq (.seq (.reg [⟨(some 16), none, .mv (.t 9), [], (.new [])⟩,
   ⟨(some 17), none, .mv (.t 0), [], (.new [])⟩,
   ⟨(some 18), none, .mv (.t 7), [], (.new [])⟩,
   ⟨(some 19), none, .indexA 4 (.t 17) (.t 18), [], (.new [])⟩,
   ⟨(some 20), none, .fieldA 2 (.t 19), [], (.new [])⟩,
   ⟨(some 21), none, .load none (.t 20), [], (.new [])⟩,
   ⟨(some 22), none, .len (.t 21), [], (.new [])⟩,
   ⟨(some 23), none, .bin .lss (.t 16) (.t 22), [], (.new [])⟩])
 (.cond (.t 23)
 .skip
 (.exit 0)))
 (.seq (.sem (.block 1 (.seq (.reg [⟨(some 26), none, .mv (.t 0), [], (.new [])⟩,
   ⟨(some 27), none, .mv (.t 7), [], (.new [])⟩,
   ⟨(some 28), none, .indexA 4 (.t 26) (.t 27), [], (.new [])⟩,
   ⟨(some 29), none, .fieldA 2 (.t 28), [], (.new [])⟩,
   ⟨(some 30), none, .load none (.t 29), [], (.new [])⟩,
   ⟨(some 31), none, .mv (.t 9), [], (.new [])⟩,
   ⟨(some 32), none, .indexA 1 (.t 30) (.t 31), [], (.new [])⟩,
   ⟨(some 33), none, .load none (.t 32), [], (.new [])⟩,
   ⟨(some 34), none, .mv (.t 2), [], (.new [])⟩,
   ⟨(some 35), none, .bin .neq (.t 33) (.t 34), [], (.new [])⟩])
 (.cond (.t 35)
 (.reg [⟨(some 36), none, .mv (.t 8), [], (.new [])⟩,
   ⟨(some 37), none, .mv (.t 0), [], (.new [])⟩,
   ⟨(some 38), none, .mv (.t 7), [], (.new [])⟩,
   ⟨(some 39), none, .indexA 4 (.t 37) (.t 38), [], (.new [])⟩,
   ⟨(some 40), none, .fieldA 2 (.t 39), [], (.new [])⟩,
   ⟨(some 41), none, .load none (.t 40), [], (.new [])⟩,
   ⟨(some 42), none, .mv (.t 9), [], (.new [])⟩,
   ⟨(some 43), none, .indexA 1 (.t 41) (.t 42), [], (.new [])⟩,
   ⟨(some 44), none, .load none (.t 43), [], (.new [])⟩,
   ⟨(some 45), none, .bslice 1 [(.t 44)], [], (.new [])⟩,
   ⟨(some 46), none, .app 1 16 (.t 36) (.t 45), [], (.new [])⟩,
   ⟨(some 8), none, .mv (.t 46), [], (.new [])⟩])
 .skip))))
 (.reg [⟨(some 24), none, .mv (.t 9), [], (.new [])⟩,
   ⟨(some 25), none, .bin .add (.t 24) (kI 1), [], (.new [])⟩,
   ⟨(some 9), none, .mv (.t 25), [], (.new [])⟩])))))))
 (.seq (.regd [⟨(some 47), none, .mv (.t 0), [], (.new [])⟩,
   ⟨(some 48), none, .mv (.t 1), [], (.new [])⟩,
   ⟨(some 49), none, .mv (.t 0), [], (.new [])⟩,
   ⟨(some 50), none, .mv (.t 7), [], (.new [])⟩,
   ⟨(some 51), none, .indexA 4 (.t 49) (.t 50), [2, 3], (.new [])⟩,
   ⟨(some 52), none, .fieldA 1 (.t 51), [2, 3, 4], (.new [])⟩,
   ⟨(some 53), none, .load none (.t 52), [2, 3, 4, 5], (.new [])⟩,
   ⟨(some 54), none, .mv (.t 8), [], (.new [])⟩,
   ⟨(some 55), none, .mv (.t 0), [], (.new [])⟩,
   ⟨(some 56), none, .mv (.t 7), [], (.new [])⟩,
   ⟨(some 57), none, .indexA 4 (.t 55) (.t 56), [8, 9], (.new [])⟩,
   ⟨(some 58), none, .fieldA 3 (.t 57), [8, 9, 10], (.new [])⟩,
   ⟨(some 59), none, .load none (.t 58), [8, 9, 10, 11], (.new [])⟩,
   ⟨(some 60), none, .build [.d (.v (.string ⟨#[]⟩)), .d (.v (.int .i64 0)), .d (.v (.slice none 0 0)), .d (.v (.int .i64 0))] [(0, 1, (.t 48)), (1, 1, (.t 53)), (2, 1, (.t 54)), (3, 1, (.t 59))], [1, 2, 3, 4, 5, 6, 7, 8, 9, 10, 11, 12], (.lone [])⟩,
   ⟨(some 61), none, .call 27 [(.t 47), (.t 60)], [0, 1, 2, 3, 4, 5, 6, 7, 8, 9, 10, 11, 12, 13], (.lone [])⟩,
   ⟨(some 6), none, .mv (.t 61), [0, 1, 2, 3, 4, 5, 6, 7, 8, 9, 10, 11, 12, 13, 14], (.new [])⟩])
 .ret))))))⟩
theorem a15_ok : afn Try.prog 15 = some a15.er := by kernel_rfl
theorem F15_ok {x0 : (List Expectation)} {x1 : ByteArray} {x2 : ByteArray} {r : (List Expectation)} (h : F15 x0 x1 x2 = some r) : CallD Try.prog 15 [.c (.d (.sl (x0.map eExpectation))), .c (.d (.v (.string x1))), .c (.d (.v (.string x2)))] [] (tupV [.c (.d (.sl (r.map eExpectation)))]) [] := by
  refine callS a15_ok (by simp [a15]) ?_
  rw [F15] at h
  simp only [a15, VW.down, Nat.reduceEqDiff, reduceCtorEq, Nat.reduceAdd, Nat.reduceLeDiff, Nat.reduceLT, Nat.reduceBEq, Nat.reduceSub, EE.down]
  obtain ⟨t1, ht1, h⟩ := Option.bind_eq_some_iff.1 h
  refine callX_n [] (F29_ok ht1) ?_ ?_ ?_ ?_ ?_ ?_
  · first | rfl | simp [nrmA, nrmC, nrm, A1.ren, C.ren, rn, List.length_set]
  · simp [liveAll, A1.live, C.live]
  · rfl
  · decide
  · exact trivial
  simp only [VW.down, Nat.reduceEqDiff, reduceCtorEq, Nat.reduceAdd, Nat.reduceLeDiff, Nat.reduceLT, Nat.reduceBEq, Nat.reduceSub, EE.down]
  refine condS (fun c2 => ?_) (fun c2 => ?_)
  · have h := (if_pos c2).symm.trans h
    simp only [VW.down, Nat.reduceEqDiff, reduceCtorEq, Nat.reduceAdd, Nat.reduceLeDiff, Nat.reduceLT, Nat.reduceBEq, Nat.reduceSub, EE.down]
    obtain rfl := Option.some.inj h
    exact eF []
  · have h := (if_neg c2).symm.trans h
    simp only [VW.down, Nat.reduceEqDiff, reduceCtorEq, Nat.reduceAdd, Nat.reduceLeDiff, Nat.reduceLT, Nat.reduceBEq, Nat.reduceSub, EE.down]
    obtain ⟨o3, ho, h⟩ := Option.bind_eq_some_iff.1 h
    refine cutS (fun s => s = ⟨[(0, .one (.c (.d (.sl (x0.map eExpectation))))), (1, .one (.c (.d (.v (.string x1))))), (7, .one (.c (.d (.v (.int .i64 t1))))), (8, .one (.c (.own 0 0 0 (o3.length) none)))], [some (.arr 0 1 (o3.map eS))]⟩) ?_ ?_
    · have h := ho
      clear ho
      simp only [VW.down, Nat.reduceEqDiff, reduceCtorEq, Nat.reduceAdd, Nat.reduceLeDiff, Nat.reduceLT, Nat.reduceBEq, Nat.reduceSub, EE.down]
      refine bL (fun j s => ∃ (o3_0 : List ByteArray) (o3_1 : Int), s = ⟨[(0, .one (.c (.d (.sl (x0.map eExpectation))))), (1, .one (.c (.d (.v (.string x1))))), (2, .one (.c (.d (.v (.string x2))))), (7, .one (.c (.d (.v (.int .i64 t1))))), (8, .one (.c (.own 0 0 0 (o3_0.length) none))), (9, .one (.c (.d (.v (.int .i64 o3_1)))))], [some (.arr 0 1 (o3_0.map eS))]⟩ ∧ F15_l3 t1 x0 x2 j o3_0 o3_1 = some o3) 1099511627776 [none] ⟨[], 0, rfl, h⟩ ?_
      rintro j _ ⟨o3_0, o3_1, rfl, h⟩
      cases j with
      | zero => cases (show (none : Option _) = some _ from h)
      | succ j =>
        rw [F15_l3] at h
        simp only [VW.down, Nat.reduceEqDiff, reduceCtorEq, Nat.reduceAdd, Nat.reduceLeDiff, Nat.reduceLT, Nat.reduceBEq, Nat.reduceSub, EE.down]
        obtain ⟨y4, hy4, h⟩ := Option.bind_eq_some_iff.1 h
        refine t_idxF (enc := eExpectation) (xs := x0) rfl rfl hy4 rfl ?_
        simp only [VW.down, Nat.reduceEqDiff, reduceCtorEq, Nat.reduceAdd, Nat.reduceLeDiff, Nat.reduceLT, Nat.reduceBEq, Nat.reduceSub, EE.down]
        refine condS (fun c5 => ?_) (fun c5 => ?_)
        · have h := (if_pos c5).symm.trans h
          simp only [VW.down, Nat.reduceEqDiff, reduceCtorEq, Nat.reduceAdd, Nat.reduceLeDiff, Nat.reduceLT, Nat.reduceBEq, Nat.reduceSub, EE.down]
          obtain ⟨o6, ho, h⟩ := Option.bind_eq_some_iff.1 h
          refine cutS (fun s => s = ⟨[(0, .one (.c (.d (.sl (x0.map eExpectation))))), (1, .one (.c (.d (.v (.string x1))))), (2, .one (.c (.d (.v (.string x2))))), (7, .one (.c (.d (.v (.int .i64 t1))))), (8, .one (.c (.own 0 0 0 (o6.length) none))), (9, .one (.c (.d (.v (.int .i64 o3_1)))))], [some (.arr 0 1 (o6.map eS))]⟩) ?_ ?_
          · have h := ho
            clear ho
            simp only [VW.down, Nat.reduceEqDiff, reduceCtorEq, Nat.reduceAdd, Nat.reduceLeDiff, Nat.reduceLT, Nat.reduceBEq, Nat.reduceSub, EE.down]
            refine t_idxF (enc := eExpectation) (xs := x0) rfl rfl hy4 rfl ?_
            simp only [VW.down, Nat.reduceEqDiff, reduceCtorEq, Nat.reduceAdd, Nat.reduceLeDiff, Nat.reduceLT, Nat.reduceBEq, Nat.reduceSub, EE.down]
            obtain ⟨y7, hy7, h⟩ := Option.bind_eq_some_iff.1 h
            refine t_idxF (enc := eS) (xs := y4.Deletes) rfl rfl hy7 rfl ?_
            simp only [VW.down, Nat.reduceEqDiff, reduceCtorEq, Nat.reduceAdd, Nat.reduceLeDiff, Nat.reduceLT, Nat.reduceBEq, Nat.reduceSub, EE.down]
            refine condS (fun c8 => ?_) (fun c8 => ?_)
            · have h := (if_pos c8).symm.trans h
              simp only [VW.down, Nat.reduceEqDiff, reduceCtorEq, Nat.reduceAdd, Nat.reduceLeDiff, Nat.reduceLT, Nat.reduceBEq, Nat.reduceSub, EE.down]
              refine t_idxF (enc := eExpectation) (xs := x0) rfl rfl hy4 rfl ?_
              simp only [VW.down, Nat.reduceEqDiff, reduceCtorEq, Nat.reduceAdd, Nat.reduceLeDiff, Nat.reduceLT, Nat.reduceBEq, Nat.reduceSub, EE.down]
              refine t_idxF (enc := eS) (xs := y4.Deletes) rfl rfl hy7 rfl ?_
              simp only [VW.down, Nat.reduceEqDiff, reduceCtorEq, Nat.reduceAdd, Nat.reduceLeDiff, Nat.reduceLT, Nat.reduceBEq, Nat.reduceSub, EE.down]
              refine t_bslice (enc := eS) (ys := [y7]) rfl rfl (by simp [A1.cells]) (by first | rfl | (simp only [List.drop_zero, take_mapL]; rfl)) ?_
              simp only [VW.down, Nat.reduceEqDiff, reduceCtorEq, Nat.reduceAdd, Nat.reduceLeDiff, Nat.reduceLT, Nat.reduceBEq, Nat.reduceSub, EE.down]
              obtain ⟨a9, ha9, h⟩ := Option.bind_eq_some_iff.1 h
              refine t_app (enc := eS) (xs := o3_0) rfl rfl (by first | rfl | simp only [List.length_set] | exact (clrL_len (slI_len (by assumption))).symm) rfl (rows_full (enc := eS) (by first | rfl | simp only [List.length_set] | exact (clrL_len (slI_len (by assumption))).symm) rfl) ha9 ?_
              simp only [VW.down, Nat.reduceEqDiff, reduceCtorEq, Nat.reduceAdd, Nat.reduceLeDiff, Nat.reduceLT, Nat.reduceBEq, Nat.reduceSub, EE.down]
              obtain rfl := Option.some.inj h
              exact eM [some 0] rfl
            · have h := (if_neg c8).symm.trans h
              simp only [VW.down, Nat.reduceEqDiff, reduceCtorEq, Nat.reduceAdd, Nat.reduceLeDiff, Nat.reduceLT, Nat.reduceBEq, Nat.reduceSub, EE.down]
              obtain rfl := Option.some.inj h
              exact eM [some 0] rfl
          · rintro _ rfl
            clear ho
            simp only [VW.down, Nat.reduceEqDiff, reduceCtorEq, Nat.reduceAdd, Nat.reduceLeDiff, Nat.reduceLT, Nat.reduceBEq, Nat.reduceSub, EE.down]
            exact eL' j [some 0] ⟨o6, (IntKind.i64.wrap (o3_1 + 1)), rfl, h⟩ (Nat.lt_succ_self _)
        · have h := (if_neg c5).symm.trans h
          simp only [VW.down, Nat.reduceEqDiff, reduceCtorEq, Nat.reduceAdd, Nat.reduceLeDiff, Nat.reduceLT, Nat.reduceBEq, Nat.reduceSub, EE.down]
          obtain rfl := Option.some.inj h
          exact eM [some 0] rfl
    · rintro _ rfl
      clear ho
      simp only [VW.down, Nat.reduceEqDiff, reduceCtorEq, Nat.reduceAdd, Nat.reduceLeDiff, Nat.reduceLT, Nat.reduceBEq, Nat.reduceSub, EE.down]
      obtain ⟨y10, hy10, h⟩ := Option.bind_eq_some_iff.1 h
      refine t_idxF (enc := eExpectation) (xs := x0) rfl rfl hy10 rfl ?_
      simp only [VW.down, Nat.reduceEqDiff, reduceCtorEq, Nat.reduceAdd, Nat.reduceLeDiff, Nat.reduceLT, Nat.reduceBEq, Nat.reduceSub, EE.down]
      refine t_idxF (enc := eExpectation) (xs := x0) rfl rfl hy10 rfl ?_
      simp only [VW.down, Nat.reduceEqDiff, reduceCtorEq, Nat.reduceAdd, Nat.reduceLeDiff, Nat.reduceLT, Nat.reduceBEq, Nat.reduceSub, EE.down]
      obtain ⟨t11, ht11, h⟩ := Option.bind_eq_some_iff.1 h
      refine callX_gen (as1 := [.c (.d (.sl (x0.map eExpectation))), .agg [.d (.v (.string x1)), .d (.v (.int .i64 y10.Creates)), .d (.sl (o3.map eS)), .d (.v (.int .i64 y10.Since))]]) [(0, .arr 1 1 [])] [none] [] (F27_ok ht11) ⟨?_, rfl, ?_⟩ ?_ ?_ ?_ ?_ ?_ ?_ ?_ ?_
      · simp only [ZZ.down, Nat.reduceEqDiff, reduceCtorEq, Nat.reduceAdd, Nat.reduceLeDiff, Nat.reduceLT, Nat.reduceBNe, EE.down]
      · simp only [ZZ.down, Nat.reduceEqDiff, reduceCtorEq, Nat.reduceAdd, Nat.reduceLeDiff, Nat.reduceLT, Nat.reduceBNe, EE.down]
      · simp only [ZZ.down, Nat.reduceEqDiff, reduceCtorEq, Nat.reduceAdd, Nat.reduceLeDiff, Nat.reduceLT, Nat.reduceBNe, EE.down]
      · rfl
      · rfl
      · simp [liveAll, A1.live, C.live]
      · rfl
      · decide
      · exact trivial
      simp only [VW.down, Nat.reduceEqDiff, reduceCtorEq, Nat.reduceAdd, Nat.reduceLeDiff, Nat.reduceLT, Nat.reduceBEq, Nat.reduceSub, EE.down]
      obtain rfl := Option.some.inj h
      exact eF []

/- orchestrator/orchestratorref32.Met -/
def F17 (x0 : (List Expectation)) (x1 : ByteArray) (x2 : Int) (x3 : Int) : Option (Bool) := (F29 x0 x1).bind fun t1 => (((if t1 < 0 then some true else (F28 x2 1000000000000).bind fun t4 => (rdI x0 t1).bind fun y5 => (F28 x3 1000000000000).bind fun t6 => some (decide ((if (if 0 < x3 then x3 else 0) < (1000000000000 : Int) then (if 0 < x3 then x3 else 0) else (1000000000000 : Int)) < (IntKind.i64.wrap (((if (if 0 < x2 then x2 else 0) < (1000000000000 : Int) then (if 0 < x2 then x2 else 0) else (1000000000000 : Int))) - y5.Since)))))).bind fun o2 => some o2)
def a17 : AFn := ⟨28, [(.tmp 8)],
 (.seq (.reg [⟨(some 8), none, .mv (kB false), [], (.new [])⟩])
 (.seq (.reg [⟨(some 10), none, .mv (.t 0), [], (.new [])⟩,
   ⟨(some 11), none, .mv (.t 1), [], (.new [])⟩,
   ⟨(some 12), none, .call 29 [(.t 10), (.t 11)], [], (.new [])⟩,
   ⟨(some 9), none, .mv (.t 12), [], (.new [])⟩])
 (.seq (.sem (.regd [⟨(some 13), none, .mv (.t 9), [], (.new [])⟩,
   ⟨(some 14), none, .bin .lss (.t 13) (kI 0), [0], (.new [])⟩,
   ⟨(some 15), none, .mv (.t 14), [0, 1], (.new [])⟩,
   ⟨(some 16), (some (15, false)), .mv (.t 2), [0, 1, 2], (.new [])⟩,
   ⟨(some 17), (some (15, false)), .call 28 [(.t 16), (kI 1000000000000)], [0, 1, 2, 3], (.new [3])⟩,
   ⟨(some 18), (some (15, false)), .mv (.t 0), [0, 1, 2], (.new [])⟩,
   ⟨(some 19), (some (15, false)), .mv (.t 9), [0, 1, 2], (.new [])⟩,
   ⟨(some 20), (some (15, false)), .indexA 4 (.t 18) (.t 19), [0, 1, 2, 5, 6], (.new [])⟩,
   ⟨(some 21), (some (15, false)), .fieldA 3 (.t 20), [0, 1, 2, 5, 6, 7], (.new [])⟩,
   ⟨(some 22), (some (15, false)), .load none (.t 21), [0, 1, 2, 5, 6, 7, 8], (.new [])⟩,
   ⟨(some 23), (some (15, false)), .bin .sub (.t 17) (.t 22), [0, 1, 2, 3, 4, 5, 6, 7, 8, 9], (.new [])⟩,
   ⟨(some 24), (some (15, false)), .mv (.t 3), [0, 1, 2], (.new [])⟩,
   ⟨(some 25), (some (15, false)), .call 28 [(.t 24), (kI 1000000000000)], [0, 1, 2, 3, 4, 11], (.lone [18, 20, 21])⟩,
   ⟨(some 26), (some (15, false)), .bin .gtr (.t 23) (.t 25), [0, 1, 2, 3, 4, 5, 6, 7, 8, 9, 10, 11, 12], (.new [])⟩,
   ⟨(some 27), none, .pick (.t 15) (kB true) (.t 26), [0, 1, 2, 3, 4, 5, 6, 7, 8, 9, 10, 11, 12, 13], (.lone [])⟩,
   ⟨(some 8), none, .mv (.t 27), [0, 1, 2, 3, 4, 5, 6, 7, 8, 9, 10, 11, 12, 13, 14], (.new [])⟩]))
 .ret)))⟩
theorem a17_ok : afn Try.prog 17 = some a17.er := by kernel_rfl
theorem F17_ok {x0 : (List Expectation)} {x1 : ByteArray} {x2 : Int} {x3 : Int} {r : Bool} (h : F17 x0 x1 x2 x3 = some r) : CallD Try.prog 17 [.c (.d (.sl (x0.map eExpectation))), .c (.d (.v (.string x1))), .c (.d (.v (.int .i64 x2))), .c (.d (.v (.int .i64 x3)))] [] (tupV [.c (.d (.v (.bool r)))]) [] := by
  refine callS a17_ok (by simp [a17]) ?_
  rw [F17] at h
  simp only [a17, VW.down, Nat.reduceEqDiff, reduceCtorEq, Nat.reduceAdd, Nat.reduceLeDiff, Nat.reduceLT, Nat.reduceBEq, Nat.reduceSub, EE.down]
  obtain ⟨t1, ht1, h⟩ := Option.bind_eq_some_iff.1 h
  refine callX_n [] (F29_ok ht1) ?_ ?_ ?_ ?_ ?_ ?_
  · first | rfl | simp [nrmA, nrmC, nrm, A1.ren, C.ren, rn, List.length_set]
  · simp [liveAll, A1.live, C.live]
  · rfl
  · decide
  · exact trivial
  simp only [VW.down, Nat.reduceEqDiff, reduceCtorEq, Nat.reduceAdd, Nat.reduceLeDiff, Nat.reduceLT, Nat.reduceBEq, Nat.reduceSub, EE.down]
  obtain ⟨o2, ho, h⟩ := Option.bind_eq_some_iff.1 h
  refine cutS (fun s => s = ⟨[(8, .one (.c (.d (.v (.bool o2)))))], []⟩) ?_ ?_
  · have h := ho
    clear ho
    simp only [VW.down, Nat.reduceEqDiff, reduceCtorEq, Nat.reduceAdd, Nat.reduceLeDiff, Nat.reduceLT, Nat.reduceBEq, Nat.reduceSub, EE.down]
    refine guardD (fun g3 => ?_) (fun g3 => ?_)
    · have h := (if_pos g3).symm.trans h
      simp only [VW.down, Nat.reduceEqDiff, reduceCtorEq, Nat.reduceAdd, Nat.reduceLeDiff, Nat.reduceLT, Nat.reduceBEq, Nat.reduceSub, EE.down]
      obtain rfl := Option.some.inj h
      exact eM [] rfl
    · have h := (if_neg g3).symm.trans h
      simp only [VW.down, Nat.reduceEqDiff, reduceCtorEq, Nat.reduceAdd, Nat.reduceLeDiff, Nat.reduceLT, Nat.reduceBEq, Nat.reduceSub, EE.down]
      obtain ⟨t4, ht4, h⟩ := Option.bind_eq_some_iff.1 h
      refine callX_n [] (F28_ok ht4) ?_ ?_ ?_ ?_ ?_ ?_
      · first | rfl | simp [nrmA, nrmC, nrm, A1.ren, C.ren, rn, List.length_set]
      · simp [liveAll, A1.live, C.live]
      · rfl
      · decide
      · exact trivial
      simp only [VW.down, Nat.reduceEqDiff, reduceCtorEq, Nat.reduceAdd, Nat.reduceLeDiff, Nat.reduceLT, Nat.reduceBEq, Nat.reduceSub, EE.down]
      obtain ⟨y5, hy5, h⟩ := Option.bind_eq_some_iff.1 h
      refine t_idxF (enc := eExpectation) (xs := x0) rfl rfl hy5 rfl ?_
      simp only [VW.down, Nat.reduceEqDiff, reduceCtorEq, Nat.reduceAdd, Nat.reduceLeDiff, Nat.reduceLT, Nat.reduceBEq, Nat.reduceSub, EE.down]
      obtain ⟨t6, ht6, h⟩ := Option.bind_eq_some_iff.1 h
      refine callX_n [] (F28_ok ht6) ?_ ?_ ?_ ?_ ?_ ?_
      · first | rfl | simp [nrmA, nrmC, nrm, A1.ren, C.ren, rn, List.length_set]
      · simp [liveAll, A1.live, C.live]
      · rfl
      · decide
      · exact trivial
      simp only [VW.down, Nat.reduceEqDiff, reduceCtorEq, Nat.reduceAdd, Nat.reduceLeDiff, Nat.reduceLT, Nat.reduceBEq, Nat.reduceSub, EE.down]
      obtain rfl := Option.some.inj h
      exact eM [] rfl
  · rintro _ rfl
    clear ho
    simp only [VW.down, Nat.reduceEqDiff, reduceCtorEq, Nat.reduceAdd, Nat.reduceLeDiff, Nat.reduceLT, Nat.reduceBEq, Nat.reduceSub, EE.down]
    obtain rfl := Option.some.inj h
    exact eF []

/- orchestrator/orchestratorlaw32.ExpectSees -/
def F4 (x0 : (List Expectation)) (x1 : ByteArray) (x2 : ByteArray) (x3 : Int) (x4 : Int) : Option (Bool) := (F7 x0).bind fun t1 => (if (nb t1) = true then (F8).bind fun t3 => some t3 else (((F8).bind fun t5 => (if t5 = true then (F12 x0 x1).bind fun t7 => (F13 x0 x1).bind fun t8 => (F9 t7 t8).bind fun t9 => (if t9 = true then (F14 x0 x1 x2).bind fun t11 => (F15 x0 x1 x2).bind fun t12 => (F9 t11 t12).bind fun t13 => (if t13 = true then (F16 x0 x1 x3 x4).bind fun t15 => (F17 x0 x1 x3 x4).bind fun t16 => some (((t15 == t16) != false)) else some false) else some false) else some false)).bind fun o4 => some o4))
def a4 : AFn := ⟨49, [(.tmp 10)],
 (.seq (.reg [⟨(some 10), none, .mv (kB false), [], (.new [])⟩])
 (.seq (.seq (.reg [⟨(some 11), none, .mv (.t 0), [], (.new [])⟩,
   ⟨(some 12), none, .call 7 [(.t 11)], [], (.new [])⟩,
   ⟨(some 13), none, .not (.t 12), [], (.new [])⟩])
 (.cond (.t 13)
 (.seq (.reg [⟨(some 14), none, .call 8 [], [], (.new [])⟩,
   ⟨(some 10), none, .mv (.t 14), [], (.new [])⟩])
 .ret)
 .skip))
 (.seq (.sem (.reg [⟨(some 15), none, .call 8 [], [], (.new [])⟩,
   ⟨(some 16), none, .mv (.t 15), [], (.new [])⟩,
   ⟨(some 17), (some (16, true)), .mv (.t 0), [], (.new [])⟩,
   ⟨(some 18), (some (16, true)), .mv (.t 1), [], (.new [])⟩,
   ⟨(some 19), (some (16, true)), .call 12 [(.t 17), (.t 18)], [], (.new [])⟩,
   ⟨(some 20), (some (16, true)), .mv (.t 0), [], (.new [])⟩,
   ⟨(some 21), (some (16, true)), .mv (.t 1), [], (.new [])⟩,
   ⟨(some 22), (some (16, true)), .call 13 [(.t 20), (.t 21)], [], (.new [])⟩,
   ⟨(some 23), (some (16, true)), .call 9 [(.t 19), (.t 22)], [], (.new [])⟩,
   ⟨(some 24), none, .pick (.t 16) (.t 23) (kB false), [], (.new [])⟩,
   ⟨(some 25), none, .mv (.t 24), [], (.new [])⟩,
   ⟨(some 26), (some (25, true)), .mv (.t 0), [], (.new [])⟩,
   ⟨(some 27), (some (25, true)), .mv (.t 1), [], (.new [])⟩,
   ⟨(some 28), (some (25, true)), .mv (.t 2), [], (.new [])⟩,
   ⟨(some 29), (some (25, true)), .call 14 [(.t 26), (.t 27), (.t 28)], [], (.new [])⟩,
   ⟨(some 30), (some (25, true)), .mv (.t 0), [], (.new [])⟩,
   ⟨(some 31), (some (25, true)), .mv (.t 1), [], (.new [])⟩,
   ⟨(some 32), (some (25, true)), .mv (.t 2), [], (.new [])⟩,
   ⟨(some 33), (some (25, true)), .call 15 [(.t 30), (.t 31), (.t 32)], [], (.new [])⟩,
   ⟨(some 34), (some (25, true)), .call 9 [(.t 29), (.t 33)], [], (.new [])⟩,
   ⟨(some 35), none, .pick (.t 25) (.t 34) (kB false), [], (.new [])⟩,
   ⟨(some 36), none, .mv (.t 35), [], (.new [])⟩,
   ⟨(some 37), (some (36, true)), .mv (.t 0), [], (.new [])⟩,
   ⟨(some 38), (some (36, true)), .mv (.t 1), [], (.new [])⟩,
   ⟨(some 39), (some (36, true)), .mv (.t 3), [], (.new [])⟩,
   ⟨(some 40), (some (36, true)), .mv (.t 4), [], (.new [])⟩,
   ⟨(some 41), (some (36, true)), .call 16 [(.t 37), (.t 38), (.t 39), (.t 40)], [], (.new [])⟩,
   ⟨(some 42), (some (36, true)), .mv (.t 0), [], (.new [])⟩,
   ⟨(some 43), (some (36, true)), .mv (.t 1), [], (.new [])⟩,
   ⟨(some 44), (some (36, true)), .mv (.t 3), [], (.new [])⟩,
   ⟨(some 45), (some (36, true)), .mv (.t 4), [], (.new [])⟩,
   ⟨(some 46), (some (36, true)), .call 17 [(.t 42), (.t 43), (.t 44), (.t 45)], [], (.new [])⟩,
   ⟨(some 47), (some (36, true)), .beq false (.t 41) (.t 46), [], (.new [])⟩,
   ⟨(some 48), none, .pick (.t 36) (.t 47) (kB false), [], (.new [])⟩,
   ⟨(some 10), none, .mv (.t 48), [], (.new [])⟩]))
 .ret)))⟩
theorem a4_ok : afn Try.prog 4 = some a4.er := by kernel_rfl
theorem F4_ok {x0 : (List Expectation)} {x1 : ByteArray} {x2 : ByteArray} {x3 : Int} {x4 : Int} {r : Bool} (h : F4 x0 x1 x2 x3 x4 = some r) : CallD Try.prog 4 [.c (.d (.sl (x0.map eExpectation))), .c (.d (.v (.string x1))), .c (.d (.v (.string x2))), .c (.d (.v (.int .i64 x3))), .c (.d (.v (.int .i64 x4)))] [] (tupV [.c (.d (.v (.bool r)))]) [] := by
  refine callS a4_ok (by simp [a4]) ?_
  rw [F4] at h
  simp only [a4, VW.down, Nat.reduceEqDiff, reduceCtorEq, Nat.reduceAdd, Nat.reduceLeDiff, Nat.reduceLT, Nat.reduceBEq, Nat.reduceSub, EE.down]
  obtain ⟨t1, ht1, h⟩ := Option.bind_eq_some_iff.1 h
  refine callX_n [] (F7_ok ht1) ?_ ?_ ?_ ?_ ?_ ?_
  · first | rfl | simp [nrmA, nrmC, nrm, A1.ren, C.ren, rn, List.length_set]
  · simp [liveAll, A1.live, C.live]
  · rfl
  · decide
  · exact trivial
  simp only [VW.down, Nat.reduceEqDiff, reduceCtorEq, Nat.reduceAdd, Nat.reduceLeDiff, Nat.reduceLT, Nat.reduceBEq, Nat.reduceSub, EE.down]
  refine condB (fun c2 => ?_) (fun c2 => ?_)
  · have h := (if_pos c2).symm.trans h
    simp only [VW.down, Nat.reduceEqDiff, reduceCtorEq, Nat.reduceAdd, Nat.reduceLeDiff, Nat.reduceLT, Nat.reduceBEq, Nat.reduceSub, EE.down]
    obtain ⟨t3, ht3, h⟩ := Option.bind_eq_some_iff.1 h
    refine callX_n [] (F8_ok ht3) ?_ ?_ ?_ ?_ ?_ ?_
    · first | rfl | simp [nrmA, nrmC, nrm, A1.ren, C.ren, rn, List.length_set]
    · simp [liveAll, A1.live, C.live]
    · rfl
    · decide
    · exact trivial
    simp only [VW.down, Nat.reduceEqDiff, reduceCtorEq, Nat.reduceAdd, Nat.reduceLeDiff, Nat.reduceLT, Nat.reduceBEq, Nat.reduceSub, EE.down]
    obtain rfl := Option.some.inj h
    exact eF []
  · have h := (if_neg c2).symm.trans h
    simp only [VW.down, Nat.reduceEqDiff, reduceCtorEq, Nat.reduceAdd, Nat.reduceLeDiff, Nat.reduceLT, Nat.reduceBEq, Nat.reduceSub, EE.down]
    obtain ⟨o4, ho, h⟩ := Option.bind_eq_some_iff.1 h
    refine cutS (fun s => s = ⟨[(10, .one (.c (.d (.v (.bool o4)))))], []⟩) ?_ ?_
    · have h := ho
      clear ho
      simp only [VW.down, Nat.reduceEqDiff, reduceCtorEq, Nat.reduceAdd, Nat.reduceLeDiff, Nat.reduceLT, Nat.reduceBEq, Nat.reduceSub, EE.down]
      obtain ⟨t5, ht5, h⟩ := Option.bind_eq_some_iff.1 h
      refine callX_n [] (F8_ok ht5) ?_ ?_ ?_ ?_ ?_ ?_
      · first | rfl | simp [nrmA, nrmC, nrm, A1.ren, C.ren, rn, List.length_set]
      · simp [liveAll, A1.live, C.live]
      · rfl
      · decide
      · exact trivial
      simp only [VW.down, Nat.reduceEqDiff, reduceCtorEq, Nat.reduceAdd, Nat.reduceLeDiff, Nat.reduceLT, Nat.reduceBEq, Nat.reduceSub, EE.down]
      refine guardSB (fun g6 => ?_) (fun g6 => ?_)
      · have h := (if_pos g6).symm.trans h
        simp only [VW.down, Nat.reduceEqDiff, reduceCtorEq, Nat.reduceAdd, Nat.reduceLeDiff, Nat.reduceLT, Nat.reduceBEq, Nat.reduceSub, EE.down]
        obtain ⟨t7, ht7, h⟩ := Option.bind_eq_some_iff.1 h
        refine callX_n [] (F12_ok ht7) ?_ ?_ ?_ ?_ ?_ ?_
        · first | rfl | simp [nrmA, nrmC, nrm, A1.ren, C.ren, rn, List.length_set]
        · simp [liveAll, A1.live, C.live]
        · rfl
        · decide
        · exact trivial
        simp only [VW.down, Nat.reduceEqDiff, reduceCtorEq, Nat.reduceAdd, Nat.reduceLeDiff, Nat.reduceLT, Nat.reduceBEq, Nat.reduceSub, EE.down]
        obtain ⟨t8, ht8, h⟩ := Option.bind_eq_some_iff.1 h
        refine callX_n [] (F13_ok ht8) ?_ ?_ ?_ ?_ ?_ ?_
        · first | rfl | simp [nrmA, nrmC, nrm, A1.ren, C.ren, rn, List.length_set]
        · simp [liveAll, A1.live, C.live]
        · rfl
        · decide
        · exact trivial
        simp only [VW.down, Nat.reduceEqDiff, reduceCtorEq, Nat.reduceAdd, Nat.reduceLeDiff, Nat.reduceLT, Nat.reduceBEq, Nat.reduceSub, EE.down]
        obtain ⟨t9, ht9, h⟩ := Option.bind_eq_some_iff.1 h
        refine callX_bor (F9_ok ht9) (by simp only [borAs, bors, hp, List.getElem?_cons_zero, List.getElem?_cons_succ, Option.join_some, List.drop_zero, bor_full', true_and, Nat.zero_add, List.length_map, Nat.le_refl, nrm, List.length_cons, List.length_nil, Nat.reduceAdd, Nat.reduceLeDiff, List.take_succ_cons, List.take_zero, List.take_nil, List.map_cons, List.map_nil, List.length_set, EE.down]) rfl ?_
        simp only [VW.down, Nat.reduceEqDiff, reduceCtorEq, Nat.reduceAdd, Nat.reduceLeDiff, Nat.reduceLT, Nat.reduceBEq, Nat.reduceSub, EE.down]
        refine guardSB (fun g10 => ?_) (fun g10 => ?_)
        · have h := (if_pos g10).symm.trans h
          simp only [VW.down, Nat.reduceEqDiff, reduceCtorEq, Nat.reduceAdd, Nat.reduceLeDiff, Nat.reduceLT, Nat.reduceBEq, Nat.reduceSub, EE.down]
          obtain ⟨t11, ht11, h⟩ := Option.bind_eq_some_iff.1 h
          refine callX_n [] (F14_ok ht11) ?_ ?_ ?_ ?_ ?_ ?_
          · first | rfl | simp [nrmA, nrmC, nrm, A1.ren, C.ren, rn, List.length_set]
          · simp [liveAll, A1.live, C.live]
          · rfl
          · decide
          · exact trivial
          simp only [VW.down, Nat.reduceEqDiff, reduceCtorEq, Nat.reduceAdd, Nat.reduceLeDiff, Nat.reduceLT, Nat.reduceBEq, Nat.reduceSub, EE.down]
          obtain ⟨t12, ht12, h⟩ := Option.bind_eq_some_iff.1 h
          refine callX_n [] (F15_ok ht12) ?_ ?_ ?_ ?_ ?_ ?_
          · first | rfl | simp [nrmA, nrmC, nrm, A1.ren, C.ren, rn, List.length_set]
          · simp [liveAll, A1.live, C.live]
          · rfl
          · decide
          · exact trivial
          simp only [VW.down, Nat.reduceEqDiff, reduceCtorEq, Nat.reduceAdd, Nat.reduceLeDiff, Nat.reduceLT, Nat.reduceBEq, Nat.reduceSub, EE.down]
          obtain ⟨t13, ht13, h⟩ := Option.bind_eq_some_iff.1 h
          refine callX_bor (F9_ok ht13) (by simp only [borAs, bors, hp, List.getElem?_cons_zero, List.getElem?_cons_succ, Option.join_some, List.drop_zero, bor_full', true_and, Nat.zero_add, List.length_map, Nat.le_refl, nrm, List.length_cons, List.length_nil, Nat.reduceAdd, Nat.reduceLeDiff, List.take_succ_cons, List.take_zero, List.take_nil, List.map_cons, List.map_nil, List.length_set, EE.down]) rfl ?_
          simp only [VW.down, Nat.reduceEqDiff, reduceCtorEq, Nat.reduceAdd, Nat.reduceLeDiff, Nat.reduceLT, Nat.reduceBEq, Nat.reduceSub, EE.down]
          refine guardSB (fun g14 => ?_) (fun g14 => ?_)
          · have h := (if_pos g14).symm.trans h
            simp only [VW.down, Nat.reduceEqDiff, reduceCtorEq, Nat.reduceAdd, Nat.reduceLeDiff, Nat.reduceLT, Nat.reduceBEq, Nat.reduceSub, EE.down]
            obtain ⟨t15, ht15, h⟩ := Option.bind_eq_some_iff.1 h
            refine callX_n [] (F16_ok ht15) ?_ ?_ ?_ ?_ ?_ ?_
            · first | rfl | simp [nrmA, nrmC, nrm, A1.ren, C.ren, rn, List.length_set]
            · simp [liveAll, A1.live, C.live]
            · rfl
            · decide
            · exact trivial
            simp only [VW.down, Nat.reduceEqDiff, reduceCtorEq, Nat.reduceAdd, Nat.reduceLeDiff, Nat.reduceLT, Nat.reduceBEq, Nat.reduceSub, EE.down]
            obtain ⟨t16, ht16, h⟩ := Option.bind_eq_some_iff.1 h
            refine callX_n [] (F17_ok ht16) ?_ ?_ ?_ ?_ ?_ ?_
            · first | rfl | simp [nrmA, nrmC, nrm, A1.ren, C.ren, rn, List.length_set]
            · simp [liveAll, A1.live, C.live]
            · rfl
            · decide
            · exact trivial
            simp only [VW.down, Nat.reduceEqDiff, reduceCtorEq, Nat.reduceAdd, Nat.reduceLeDiff, Nat.reduceLT, Nat.reduceBEq, Nat.reduceSub, EE.down]
            obtain rfl := Option.some.inj h
            exact eM [] rfl
          · have h := (if_neg g14).symm.trans h
            simp only [VW.down, Nat.reduceEqDiff, reduceCtorEq, Nat.reduceAdd, Nat.reduceLeDiff, Nat.reduceLT, Nat.reduceBEq, Nat.reduceSub, EE.down]
            obtain rfl := Option.some.inj h
            exact eM [] rfl
        · have h := (if_neg g10).symm.trans h
          simp only [VW.down, Nat.reduceEqDiff, reduceCtorEq, Nat.reduceAdd, Nat.reduceLeDiff, Nat.reduceLT, Nat.reduceBEq, Nat.reduceSub, EE.down]
          obtain rfl := Option.some.inj h
          exact eM [] rfl
      · have h := (if_neg g6).symm.trans h
        simp only [VW.down, Nat.reduceEqDiff, reduceCtorEq, Nat.reduceAdd, Nat.reduceLeDiff, Nat.reduceLT, Nat.reduceBEq, Nat.reduceSub, EE.down]
        obtain rfl := Option.some.inj h
        exact eM [] rfl
    · rintro _ rfl
      clear ho
      simp only [VW.down, Nat.reduceEqDiff, reduceCtorEq, Nat.reduceAdd, Nat.reduceLeDiff, Nat.reduceLT, Nat.reduceBEq, Nat.reduceSub, EE.down]
      obtain rfl := Option.some.inj h
      exact eF []

/- orchestrator/orchestratorlaw32.ExpectSettles -/
def F5_l10  : List Bool → Nat → Int → Option (Int)
  | [], o10_1, o10_0 => some o10_0
  | xo10 :: xs, o10_1, o10_0 => (((if xo10 = true then some ((IntKind.i64.wrap (o10_0 + 1))) else some o10_0)).bind fun o12 => F5_l10  xs (o10_1 + 1) o12)
def F5_l20 (t1 : (List ByteArray)) (x1 : ByteArray) (x4 : Int) : List Bool → Nat → (List Expectation) → Int → Option ((Bool) ⊕ ((List Expectation)))
  | [], o20_2, o20_0, o20_1 => some (Sum.inr o20_0)
  | xo20 :: xs, o20_2, o20_0, o20_1 => (((((F16 o20_0 x1 x4 50).bind fun t24 => (if t24 = true then some true else (F16 o20_0 x1 ((IntKind.i64.wrap (x4 + 50))) 50).bind fun t26 => (if t26 = true then some true else (F16 o20_0 x1 ((IntKind.i64.wrap (x4 + 51))) 50).bind fun t28 => some (nb t28)))).bind fun o23 => (if o23 = true then ((some false).map Sum.inl).map Sum.inl else (if xo20 = true then (F12 o20_0 x1).bind fun t31 => some (Sum.inr ((t31, o20_1))) else (rdI t1 o20_1).bind fun y32 => (F14 o20_0 x1 y32).bind fun t33 => some (Sum.inr ((t33, (IntKind.i64.wrap (o20_1 + 1))))))))).bind fun o22 => match o22 with | Sum.inl f => some f | Sum.inr po22 => F5_l20 t1 x1 x4 xs (o20_2 + 1) po22.1 po22.2)
def F5 (x0 : (List Expectation)) (x1 : ByteArray) (x2 : (List ByteArray)) (x3 : (List Bool)) (x4 : Int) : Option (Bool) := (F18 x2).bind fun t1 => (((F7 x0).bind fun t3 => (if (nb t3) = true then some true else (if 20 < (x2.length : Int) then some true else (if 40 < (x3.length : Int) then some true else (if x4 < 0 then some true else some (decide (999999999900 < x4))))))).bind fun o2 => (if o2 = true then (F8).bind fun t9 => some t9 else (((ck (0 ≤ x3.length ∧ x3.length ≤ 4294967290)).bind fun u14 => F5_l10 x3 0 0).bind fun o10 => (((if 20 < o10 then some true else some (decide (¬ ((IntKind.i64.wrap (((x3.length : Int)) - o10)) = (t1.length : Int)))))).bind fun o15 => (if o15 = true then (F8).bind fun t18 => some t18 else (F10 x0 x1 o10 x2 x4).bind fun t19 => (((ck (0 ≤ x3.length ∧ x3.length ≤ 4294967290)).bind fun u34 => F5_l20 t1 x1 x4 x3 0 t19 0).bind fun o20 => match o20 with | Sum.inl f => some f | Sum.inr po20 => (((F8).bind fun t36 => (if t36 = true then (F16 po20 x1 x4 50).bind fun t38 => some t38 else some false)).bind fun o35 => some o35)))))))
def a5 : AFn := ⟨119, [(.tmp 10)],
 (.seq (.reg [⟨(some 10), none, .mv (kB false), [], (.new [])⟩])
 (.seq (.reg [⟨(some 17), none, .mv (.t 2), [], (.new [])⟩,
   ⟨(some 18), none, .call 18 [(.t 17)], [], (.new [])⟩,
   ⟨(some 11), none, .mv (.t 18), [], (.new [])⟩])
 (.seq (.seq (.sem (.reg [⟨(some 19), none, .mv (.t 0), [], (.new [])⟩,
   ⟨(some 20), none, .call 7 [(.t 19)], [], (.new [])⟩,
   ⟨(some 21), none, .not (.t 20), [], (.new [])⟩,
   ⟨(some 22), none, .mv (.t 21), [], (.new [])⟩,
   ⟨(some 23), (some (22, false)), .mv (.t 2), [], (.new [])⟩,
   ⟨(some 24), (some (22, false)), .len (.t 23), [], (.new [])⟩,
   ⟨(some 25), (some (22, false)), .bin .gtr (.t 24) (kI 20), [], (.new [])⟩,
   ⟨(some 26), none, .pick (.t 22) (kB true) (.t 25), [], (.new [])⟩,
   ⟨(some 27), none, .mv (.t 26), [], (.new [])⟩,
   ⟨(some 28), (some (27, false)), .mv (.t 3), [], (.new [])⟩,
   ⟨(some 29), (some (27, false)), .len (.t 28), [], (.new [])⟩,
   ⟨(some 30), (some (27, false)), .bin .gtr (.t 29) (kI 40), [], (.new [])⟩,
   ⟨(some 31), none, .pick (.t 27) (kB true) (.t 30), [], (.new [])⟩,
   ⟨(some 32), none, .mv (.t 31), [], (.new [])⟩,
   ⟨(some 33), (some (32, false)), .mv (.t 4), [], (.new [])⟩,
   ⟨(some 34), (some (32, false)), .bin .lss (.t 33) (kI 0), [], (.new [])⟩,
   ⟨(some 35), none, .pick (.t 32) (kB true) (.t 34), [], (.new [])⟩,
   ⟨(some 36), none, .mv (.t 35), [], (.new [])⟩,
   ⟨(some 37), (some (36, false)), .mv (.t 4), [], (.new [])⟩,
   ⟨(some 38), (some (36, false)), .bin .gtr (.t 37) (kI 999999999900), [], (.new [])⟩,
   ⟨(some 39), none, .pick (.t 36) (kB true) (.t 38), [], (.new [])⟩]))
 (.cond (.t 39)
 (.seq (.reg [⟨(some 40), none, .call 8 [], [], (.new [])⟩,
   ⟨(some 10), none, .mv (.t 40), [], (.new [])⟩])
 .ret)
 .skip))
 (.seq (.reg [⟨(some 12), none, .mv (kI 0), [], (.new [])⟩])
 (.seq (.seq (.reg [⟨(some 13), none, .mv (kI 0), [], (.new [])⟩])
 (.sem (.block 0 (.loop (.seq (.seq (.reg [⟨(some 41), none, .mv (.t 13), [], (.new [])⟩,
   ⟨(some 42), none, .mv (.t 3), [], (.new [])⟩,
   ⟨(some 43), none, .len (.t 42), [], (.new [])⟩,
   ⟨(some 44), none, .bin .lss (.t 41) (.t 43), [], (.new [])⟩])
 (.cond (.t 44)
 .skip
 (.exit 0)))
 (.seq (.sem (.block 1 (.seq (.reg [⟨(some 47), none, .mv (.t 3), [], (.new [])⟩,
   ⟨(some 48), none, .mv (.t 13), [], (.new [])⟩,
   ⟨(some 49), none, .indexA 1 (.t 47) (.t 48), [], (.new [])⟩,
   ⟨(some 50), none, .load none (.t 49), [], (.new [])⟩])
 (.cond (.t 50)
 (.reg [⟨(some 51), none, .mv (.t 12), [], (.new [])⟩,
   ⟨(some 52), none, .bin .add (.t 51) (kI 1), [], (.new [])⟩,
   ⟨(some 12), none, .mv (.t 52), [], (.new [])⟩])
 .skip))))
 (.reg [⟨(some 45), none, .mv (.t 13), [], (.new [])⟩,
   ⟨(some 46), none, .bin .add (.t 45) (kI 1), [], (.new [])⟩,
   ⟨(some 13), none, .mv (.t 46), [], (.new [])⟩])))))))
 (.seq (.seq (.sem (.reg [⟨(some 53), none, .mv (.t 12), [], (.new [])⟩,
   ⟨(some 54), none, .bin .gtr (.t 53) (kI 20), [], (.new [])⟩,
   ⟨(some 55), none, .mv (.t 54), [], (.new [])⟩,
   ⟨(some 56), (some (55, false)), .mv (.t 3), [], (.new [])⟩,
   ⟨(some 57), (some (55, false)), .len (.t 56), [], (.new [])⟩,
   ⟨(some 58), (some (55, false)), .mv (.t 12), [], (.new [])⟩,
   ⟨(some 59), (some (55, false)), .bin .sub (.t 57) (.t 58), [], (.new [])⟩,
   ⟨(some 60), (some (55, false)), .mv (.t 11), [], (.new [])⟩,
   ⟨(some 61), (some (55, false)), .len (.t 60), [], (.new [])⟩,
   ⟨(some 62), (some (55, false)), .bin .neq (.t 59) (.t 61), [], (.new [])⟩,
   ⟨(some 63), none, .pick (.t 55) (kB true) (.t 62), [], (.lone [56, 60])⟩]))
 (.cond (.t 63)
 (.seq (.reg [⟨(some 64), none, .call 8 [], [], (.new [])⟩,
   ⟨(some 10), none, .mv (.t 64), [], (.new [])⟩])
 .ret)
 .skip))
 (.seq (.reg [⟨(some 65), none, .mv (.t 0), [], (.new [])⟩,
   ⟨(some 66), none, .mv (.t 1), [], (.new [])⟩,
   ⟨(some 67), none, .mv (.t 12), [], (.new [])⟩,
   ⟨(some 68), none, .mv (.t 2), [], (.new [])⟩,
   ⟨(some 69), none, .mv (.t 4), [], (.new [])⟩,
   ⟨(some 70), none, .call 10 [(.t 65), (.t 66), (.t 67), (.t 68), (.t 69)], [], (.new [])⟩,
   ⟨(some 14), none, .mv (.t 70), [], (.new [])⟩])
 (.seq (.reg [⟨(some 15), none, .mv (kI 0), [], (.new [])⟩])
 (.seq (.seq (.reg [⟨(some 16), none, .mv (kI 0), [], (.new [])⟩])
 (.sem (.block 2 (.loop (.seq (.seq (.reg [⟨(some 71), none, .mv (.t 16), [], (.new [])⟩,
   ⟨(some 72), none, .mv (.t 3), [], (.new [])⟩,
   ⟨(some 73), none, .len (.t 72), [], (.new [])⟩,
   ⟨(some 74), none, .bin .lss (.t 71) (.t 73), [], (.new [])⟩])
 (.cond (.t 74)
 .skip
 (.exit 2)))
 (.seq (.sem (.block 3 (.seq (.seq (.sem (.reg [⟨(some 77), none, .mv (.t 14), [], (.new [])⟩,
   ⟨(some 78), none, .mv (.t 1), [], (.new [])⟩,
   ⟨(some 79), none, .mv (.t 4), [], (.new [])⟩,
   ⟨(some 80), none, .call 16 [(.t 77), (.t 78), (.t 79), (kI 50)], [], (.new [])⟩,
   ⟨(some 81), none, .mv (.t 80), [], (.new [])⟩,
   ⟨(some 82), (some (81, false)), .mv (.t 14), [], (.new [])⟩,
   ⟨(some 83), (some (81, false)), .mv (.t 1), [], (.new [])⟩,
   ⟨(some 84), (some (81, false)), .mv (.t 4), [], (.new [])⟩,
   ⟨(some 85), (some (81, false)), .bin .add (.t 84) (kI 50), [], (.new [])⟩,
   ⟨(some 86), (some (81, false)), .call 16 [(.t 82), (.t 83), (.t 85), (kI 50)], [], (.new [])⟩,
   ⟨(some 87), none, .pick (.t 81) (kB true) (.t 86), [], (.new [])⟩,
   ⟨(some 88), none, .mv (.t 87), [], (.new [])⟩,
   ⟨(some 89), (some (88, false)), .mv (.t 14), [], (.new [])⟩,
   ⟨(some 90), (some (88, false)), .mv (.t 1), [], (.new [])⟩,
   ⟨(some 91), (some (88, false)), .mv (.t 4), [], (.new [])⟩,
   ⟨(some 92), (some (88, false)), .bin .add (.t 91) (kI 51), [], (.new [])⟩,
   ⟨(some 93), (some (88, false)), .call 16 [(.t 89), (.t 90), (.t 92), (kI 50)], [], (.new [])⟩,
   ⟨(some 94), (some (88, false)), .not (.t 93), [], (.new [])⟩,
   ⟨(some 95), none, .pick (.t 88) (kB true) (.t 94), [], (.new [])⟩]))
 (.cond (.t 95)
 (.seq (.reg [⟨(some 10), none, .mv (kB false), [], (.new [])⟩])
 .ret)
 .skip))
 (.seq (.reg [⟨(some 96), none, .mv (.t 3), [], (.new [])⟩,
   ⟨(some 97), none, .mv (.t 16), [], (.new [])⟩,
   ⟨(some 98), none, .indexA 1 (.t 96) (.t 97), [], (.new [])⟩,
   ⟨(some 99), none, .load none (.t 98), [], (.new [])⟩])
 (.cond (.t 99)
 (.reg [⟨(some 100), none, .mv (.t 14), [], (.new [])⟩,
   ⟨(some 101), none, .mv (.t 1), [], (.new [])⟩,
   ⟨(some 102), none, .call 12 [(.t 100), (.t 101)], [], (.new [])⟩,
   ⟨(some 14), none, .mv (.t 102), [], (.new [])⟩])
 (.seq (.reg [⟨(some 103), none, .mv (.t 14), [], (.new [])⟩,
   ⟨(some 104), none, .mv (.t 1), [], (.new [])⟩,
   ⟨(some 105), none, .mv (.t 11), [], (.new [])⟩,
   ⟨(some 106), none, .mv (.t 15), [], (.new [])⟩,
   ⟨(some 107), none, .indexA 1 (.t 105) (.t 106), [], (.new [])⟩,
   ⟨(some 108), none, .load none (.t 107), [], (.new [])⟩,
   ⟨(some 109), none, .call 14 [(.t 103), (.t 104), (.t 108)], [], (.new [])⟩,
   ⟨(some 14), none, .mv (.t 109), [], (.new [])⟩])
 (.reg [⟨(some 110), none, .mv (.t 15), [], (.new [])⟩,
   ⟨(some 111), none, .bin .add (.t 110) (kI 1), [], (.new [])⟩,
   ⟨(some 15), none, .mv (.t 111), [], (.new [])⟩])))))))
 (.reg [⟨(some 75), none, .mv (.t 16), [], (.new [])⟩,
   ⟨(some 76), none, .bin .add (.t 75) (kI 1), [], (.new [])⟩,
   ⟨(some 16), none, .mv (.t 76), [], (.new [])⟩])))))))
 (.seq (.sem (.reg [⟨(some 112), none, .call 8 [], [], (.new [])⟩,
   ⟨(some 113), none, .mv (.t 112), [], (.new [])⟩,
   ⟨(some 114), (some (113, true)), .mv (.t 14), [], (.new [])⟩,
   ⟨(some 115), (some (113, true)), .mv (.t 1), [], (.new [])⟩,
   ⟨(some 116), (some (113, true)), .mv (.t 4), [], (.new [])⟩,
   ⟨(some 117), (some (113, true)), .call 16 [(.t 114), (.t 115), (.t 116), (kI 50)], [], (.new [])⟩,
   ⟨(some 118), none, .pick (.t 113) (.t 117) (kB false), [], (.new [])⟩,
   ⟨(some 10), none, .mv (.t 118), [], (.new [])⟩]))
 .ret))))))))))⟩
theorem a5_ok : afn Try.prog 5 = some a5.er := by kernel_rfl
theorem F5_ok {x0 : (List Expectation)} {x1 : ByteArray} {x2 : (List ByteArray)} {x3 : (List Bool)} {x4 : Int} {r : Bool} (h : F5 x0 x1 x2 x3 x4 = some r) : CallD Try.prog 5 [.c (.d (.sl (x0.map eExpectation))), .c (.d (.v (.string x1))), .c (.d (.sl (x2.map eS))), .c (.d (.sl (x3.map eB))), .c (.d (.v (.int .i64 x4)))] [] (tupV [.c (.d (.v (.bool r)))]) [] := by
  refine callS a5_ok (by simp [a5]) ?_
  rw [F5] at h
  simp only [a5, VW.down, Nat.reduceEqDiff, reduceCtorEq, Nat.reduceAdd, Nat.reduceLeDiff, Nat.reduceLT, Nat.reduceBEq, Nat.reduceSub, EE.down]
  obtain ⟨t1, ht1, h⟩ := Option.bind_eq_some_iff.1 h
  refine callX_n [] (F18_ok ht1) ?_ ?_ ?_ ?_ ?_ ?_
  · first | rfl | simp [nrmA, nrmC, nrm, A1.ren, C.ren, rn, List.length_set]
  · simp [liveAll, A1.live, C.live]
  · rfl
  · decide
  · exact trivial
  simp only [VW.down, Nat.reduceEqDiff, reduceCtorEq, Nat.reduceAdd, Nat.reduceLeDiff, Nat.reduceLT, Nat.reduceBEq, Nat.reduceSub, EE.down]
  obtain ⟨o2, ho, h⟩ := Option.bind_eq_some_iff.1 h
  refine cutS (fun s => s = ⟨[(0, .one (.c (.d (.sl (x0.map eExpectation))))), (1, .one (.c (.d (.v (.string x1))))), (2, .one (.c (.d (.sl (x2.map eS))))), (3, .one (.c (.d (.sl (x3.map eB))))), (4, .one (.c (.d (.v (.int .i64 x4))))), (11, .one (.c (.own 0 0 0 (t1.length) none))), (39, .one (.c (.d (.v (.bool o2)))))], [some (.arr 0 1 (t1.map eS))]⟩) ?_ ?_
  · have h := ho
    clear ho
    simp only [VW.down, Nat.reduceEqDiff, reduceCtorEq, Nat.reduceAdd, Nat.reduceLeDiff, Nat.reduceLT, Nat.reduceBEq, Nat.reduceSub, EE.down]
    obtain ⟨t3, ht3, h⟩ := Option.bind_eq_some_iff.1 h
    refine callX_n [] (F7_ok ht3) ?_ ?_ ?_ ?_ ?_ ?_
    · first | rfl | simp [nrmA, nrmC, nrm, A1.ren, C.ren, rn, List.length_set]
    · simp [liveAll, A1.live, C.live]
    · rfl
    · decide
    · exact trivial
    simp only [VW.down, Nat.reduceEqDiff, reduceCtorEq, Nat.reduceAdd, Nat.reduceLeDiff, Nat.reduceLT, Nat.reduceBEq, Nat.reduceSub, EE.down]
    refine guardSB (fun g4 => ?_) (fun g4 => ?_)
    · have h := (if_pos g4).symm.trans h
      simp only [VW.down, Nat.reduceEqDiff, reduceCtorEq, Nat.reduceAdd, Nat.reduceLeDiff, Nat.reduceLT, Nat.reduceBEq, Nat.reduceSub, EE.down]
      obtain rfl := Option.some.inj h
      exact eM [some 0] rfl
    · have h := (if_neg g4).symm.trans h
      simp only [VW.down, Nat.reduceEqDiff, reduceCtorEq, Nat.reduceAdd, Nat.reduceLeDiff, Nat.reduceLT, Nat.reduceBEq, Nat.reduceSub, EE.down]
      refine guardS (fun g5 => ?_) (fun g5 => ?_)
      · have h := (if_pos g5).symm.trans h
        simp only [VW.down, Nat.reduceEqDiff, reduceCtorEq, Nat.reduceAdd, Nat.reduceLeDiff, Nat.reduceLT, Nat.reduceBEq, Nat.reduceSub, EE.down]
        obtain rfl := Option.some.inj h
        exact eM [some 0] rfl
      · have h := (if_neg g5).symm.trans h
        simp only [VW.down, Nat.reduceEqDiff, reduceCtorEq, Nat.reduceAdd, Nat.reduceLeDiff, Nat.reduceLT, Nat.reduceBEq, Nat.reduceSub, EE.down]
        refine guardS (fun g6 => ?_) (fun g6 => ?_)
        · have h := (if_pos g6).symm.trans h
          simp only [VW.down, Nat.reduceEqDiff, reduceCtorEq, Nat.reduceAdd, Nat.reduceLeDiff, Nat.reduceLT, Nat.reduceBEq, Nat.reduceSub, EE.down]
          obtain rfl := Option.some.inj h
          exact eM [some 0] rfl
        · have h := (if_neg g6).symm.trans h
          simp only [VW.down, Nat.reduceEqDiff, reduceCtorEq, Nat.reduceAdd, Nat.reduceLeDiff, Nat.reduceLT, Nat.reduceBEq, Nat.reduceSub, EE.down]
          refine guardS (fun g7 => ?_) (fun g7 => ?_)
          · have h := (if_pos g7).symm.trans h
            simp only [VW.down, Nat.reduceEqDiff, reduceCtorEq, Nat.reduceAdd, Nat.reduceLeDiff, Nat.reduceLT, Nat.reduceBEq, Nat.reduceSub, EE.down]
            obtain rfl := Option.some.inj h
            exact eM [some 0] rfl
          · have h := (if_neg g7).symm.trans h
            simp only [VW.down, Nat.reduceEqDiff, reduceCtorEq, Nat.reduceAdd, Nat.reduceLeDiff, Nat.reduceLT, Nat.reduceBEq, Nat.reduceSub, EE.down]
            obtain rfl := Option.some.inj h
            exact eM [some 0] rfl
  · rintro _ rfl
    clear ho
    simp only [VW.down, Nat.reduceEqDiff, reduceCtorEq, Nat.reduceAdd, Nat.reduceLeDiff, Nat.reduceLT, Nat.reduceBEq, Nat.reduceSub, EE.down]
    refine condB (fun c8 => ?_) (fun c8 => ?_)
    · have h := (if_pos c8).symm.trans h
      simp only [VW.down, Nat.reduceEqDiff, reduceCtorEq, Nat.reduceAdd, Nat.reduceLeDiff, Nat.reduceLT, Nat.reduceBEq, Nat.reduceSub, EE.down]
      obtain ⟨t9, ht9, h⟩ := Option.bind_eq_some_iff.1 h
      refine callX_n [] (F8_ok ht9) ?_ ?_ ?_ ?_ ?_ ?_
      · first | rfl | simp [nrmA, nrmC, nrm, A1.ren, C.ren, rn, List.length_set]
      · simp [liveAll, A1.live, C.live]
      · rfl
      · decide
      · exact trivial
      simp only [VW.down, Nat.reduceEqDiff, reduceCtorEq, Nat.reduceAdd, Nat.reduceLeDiff, Nat.reduceLT, Nat.reduceBEq, Nat.reduceSub, EE.down]
      obtain rfl := Option.some.inj h
      exact eF []
    · have h := (if_neg c8).symm.trans h
      simp only [VW.down, Nat.reduceEqDiff, reduceCtorEq, Nat.reduceAdd, Nat.reduceLeDiff, Nat.reduceLT, Nat.reduceBEq, Nat.reduceSub, EE.down]
      obtain ⟨o10, ho, h⟩ := Option.bind_eq_some_iff.1 h
      refine cutS (fun s => s = ⟨[(0, .one (.c (.d (.sl (x0.map eExpectation))))), (1, .one (.c (.d (.v (.string x1))))), (2, .one (.c (.d (.sl (x2.map eS))))), (3, .one (.c (.d (.sl (x3.map eB))))), (4, .one (.c (.d (.v (.int .i64 x4))))), (11, .one (.c (.own 0 0 0 (t1.length) none))), (12, .one (.c (.d (.v (.int .i64 o10)))))], [some (.arr 0 1 (t1.map eS))]⟩) ?_ ?_
      · have h := ho
        clear ho
        obtain ⟨_, hk, h⟩ := Option.bind_eq_some_iff.1 h
        have hk := ck_some hk
        simp only [VW.down, Nat.reduceEqDiff, reduceCtorEq, Nat.reduceAdd, Nat.reduceLeDiff, Nat.reduceLT, Nat.reduceBEq, Nat.reduceSub, EE.down]
        refine bL (fun j s => ∃ (o10_1 : Nat) (o10_0 : Int), (o10_1 ≤ x3.length ∧ j = x3.length - o10_1) ∧ s = ⟨[(0, .one (.c (.d (.sl (x0.map eExpectation))))), (1, .one (.c (.d (.v (.string x1))))), (2, .one (.c (.d (.sl (x2.map eS))))), (3, .one (.c (.d (.sl (x3.map eB))))), (4, .one (.c (.d (.v (.int .i64 x4))))), (11, .one (.c (.own 0 0 0 (t1.length) none))), (12, .one (.c (.d (.v (.int .i64 o10_0))))), (13, .one (.c (.d (.v (.int .i64 ((o10_1 : Int)))))))], [some (.arr 0 1 (t1.map eS))]⟩ ∧ F5_l10 (x3.drop o10_1) o10_1 o10_0 = some o10) (x3.length - 0) [some 0] ⟨0, 0, ⟨hk.1, rfl⟩, rfl, h⟩ ?_
        rintro _ _ ⟨o10_1, o10_0, ⟨hi, rfl⟩, rfl, h⟩
        simp only [VW.down, Nat.reduceEqDiff, reduceCtorEq, Nat.reduceAdd, Nat.reduceLeDiff, Nat.reduceLT, Nat.reduceBEq, Nat.reduceSub, EE.down]
        refine condS (fun c11 => ?_) (fun c11 => ?_)
        · obtain ⟨xo10, hxo10, hd⟩ := countY (show (o10_1 : Int) < (x3.length : Int) from c11)
          rw [hd, F5_l10] at h
          simp only [VW.down, Nat.reduceEqDiff, reduceCtorEq, Nat.reduceAdd, Nat.reduceLeDiff, Nat.reduceLT, Nat.reduceBEq, Nat.reduceSub, EE.down]
          obtain ⟨o12, ho, h⟩ := Option.bind_eq_some_iff.1 h
          refine cutS (fun s => s = ⟨[(0, .one (.c (.d (.sl (x0.map eExpectation))))), (1, .one (.c (.d (.v (.string x1))))), (2, .one (.c (.d (.sl (x2.map eS))))), (3, .one (.c (.d (.sl (x3.map eB))))), (4, .one (.c (.d (.v (.int .i64 x4))))), (11, .one (.c (.own 0 0 0 (t1.length) none))), (12, .one (.c (.d (.v (.int .i64 o12))))), (13, .one (.c (.d (.v (.int .i64 ((o10_1 : Int)))))))], [some (.arr 0 1 (t1.map eS))]⟩) ?_ ?_
          · have h := ho
            clear ho
            simp only [VW.down, Nat.reduceEqDiff, reduceCtorEq, Nat.reduceAdd, Nat.reduceLeDiff, Nat.reduceLT, Nat.reduceBEq, Nat.reduceSub, EE.down]
            refine t_idxF (enc := eB) (xs := x3) rfl rfl hxo10 rfl ?_
            simp only [VW.down, Nat.reduceEqDiff, reduceCtorEq, Nat.reduceAdd, Nat.reduceLeDiff, Nat.reduceLT, Nat.reduceBEq, Nat.reduceSub, EE.down]
            refine condB (fun c13 => ?_) (fun c13 => ?_)
            · have h := (if_pos c13).symm.trans h
              simp only [VW.down, Nat.reduceEqDiff, reduceCtorEq, Nat.reduceAdd, Nat.reduceLeDiff, Nat.reduceLT, Nat.reduceBEq, Nat.reduceSub, EE.down]
              obtain rfl := Option.some.inj h
              exact eM [some 0] rfl
            · have h := (if_neg c13).symm.trans h
              simp only [VW.down, Nat.reduceEqDiff, reduceCtorEq, Nat.reduceAdd, Nat.reduceLeDiff, Nat.reduceLT, Nat.reduceBEq, Nat.reduceSub, EE.down]
              obtain rfl := Option.some.inj h
              exact eM [some 0] rfl
          · rintro _ rfl
            clear ho
            simp only [VW.down, Nat.reduceEqDiff, reduceCtorEq, Nat.reduceAdd, Nat.reduceLeDiff, Nat.reduceLT, Nat.reduceBEq, Nat.reduceSub, EE.down]
            rw [wrapN (by omega)]
            exact eL' (x3.length - (o10_1 + 1)) [some 0] ⟨o10_1 + 1, o12, ⟨by omega, rfl⟩, rfl, h⟩ (by omega)
        · rw [countN (show ¬ ((o10_1 : Int) < (x3.length : Int)) from c11), F5_l10] at h
          simp only [VW.down, Nat.reduceEqDiff, reduceCtorEq, Nat.reduceAdd, Nat.reduceLeDiff, Nat.reduceLT, Nat.reduceBEq, Nat.reduceSub, EE.down]
          obtain rfl := Option.some.inj h
          exact eM [some 0] rfl
      · rintro _ rfl
        clear ho
        simp only [VW.down, Nat.reduceEqDiff, reduceCtorEq, Nat.reduceAdd, Nat.reduceLeDiff, Nat.reduceLT, Nat.reduceBEq, Nat.reduceSub, EE.down]
        obtain ⟨o15, ho, h⟩ := Option.bind_eq_some_iff.1 h
        refine cutS (fun s => s = ⟨[(0, .one (.c (.d (.sl (x0.map eExpectation))))), (1, .one (.c (.d (.v (.string x1))))), (2, .one (.c (.d (.sl (x2.map eS))))), (3, .one (.c (.d (.sl (x3.map eB))))), (4, .one (.c (.d (.v (.int .i64 x4))))), (11, .one (.c (.own 0 0 0 (t1.length) none))), (12, .one (.c (.d (.v (.int .i64 o10))))), (63, .one (.c (.d (.v (.bool o15)))))], [some (.arr 0 1 (t1.map eS))]⟩) ?_ ?_
        · have h := ho
          clear ho
          simp only [VW.down, Nat.reduceEqDiff, reduceCtorEq, Nat.reduceAdd, Nat.reduceLeDiff, Nat.reduceLT, Nat.reduceBEq, Nat.reduceSub, EE.down]
          refine guardS (fun g16 => ?_) (fun g16 => ?_)
          · have h := (if_pos g16).symm.trans h
            simp only [VW.down, Nat.reduceEqDiff, reduceCtorEq, Nat.reduceAdd, Nat.reduceLeDiff, Nat.reduceLT, Nat.reduceBEq, Nat.reduceSub, EE.down]
            obtain rfl := Option.some.inj h
            exact eM [some 0] rfl
          · have h := (if_neg g16).symm.trans h
            simp only [VW.down, Nat.reduceEqDiff, reduceCtorEq, Nat.reduceAdd, Nat.reduceLeDiff, Nat.reduceLT, Nat.reduceBEq, Nat.reduceSub, EE.down]
            obtain rfl := Option.some.inj h
            exact eM [some 0] rfl
        · rintro _ rfl
          clear ho
          simp only [VW.down, Nat.reduceEqDiff, reduceCtorEq, Nat.reduceAdd, Nat.reduceLeDiff, Nat.reduceLT, Nat.reduceBEq, Nat.reduceSub, EE.down]
          refine condB (fun c17 => ?_) (fun c17 => ?_)
          · have h := (if_pos c17).symm.trans h
            simp only [VW.down, Nat.reduceEqDiff, reduceCtorEq, Nat.reduceAdd, Nat.reduceLeDiff, Nat.reduceLT, Nat.reduceBEq, Nat.reduceSub, EE.down]
            obtain ⟨t18, ht18, h⟩ := Option.bind_eq_some_iff.1 h
            refine callX_n [] (F8_ok ht18) ?_ ?_ ?_ ?_ ?_ ?_
            · first | rfl | simp [nrmA, nrmC, nrm, A1.ren, C.ren, rn, List.length_set]
            · simp [liveAll, A1.live, C.live]
            · rfl
            · decide
            · exact trivial
            simp only [VW.down, Nat.reduceEqDiff, reduceCtorEq, Nat.reduceAdd, Nat.reduceLeDiff, Nat.reduceLT, Nat.reduceBEq, Nat.reduceSub, EE.down]
            obtain rfl := Option.some.inj h
            exact eF []
          · have h := (if_neg c17).symm.trans h
            simp only [VW.down, Nat.reduceEqDiff, reduceCtorEq, Nat.reduceAdd, Nat.reduceLeDiff, Nat.reduceLT, Nat.reduceBEq, Nat.reduceSub, EE.down]
            obtain ⟨t19, ht19, h⟩ := Option.bind_eq_some_iff.1 h
            refine callX_n [] (F10_ok ht19) ?_ ?_ ?_ ?_ ?_ ?_
            · first | rfl | simp [nrmA, nrmC, nrm, A1.ren, C.ren, rn, List.length_set]
            · simp [liveAll, A1.live, C.live]
            · rfl
            · decide
            · exact trivial
            simp only [VW.down, Nat.reduceEqDiff, reduceCtorEq, Nat.reduceAdd, Nat.reduceLeDiff, Nat.reduceLT, Nat.reduceBEq, Nat.reduceSub, EE.down]
            obtain ⟨o20, ho, h⟩ := Option.bind_eq_some_iff.1 h
            refine cutS (fun s => ∃ po20, o20 = Sum.inr po20 ∧ s = ⟨[(1, .one (.c (.d (.v (.string x1))))), (4, .one (.c (.d (.v (.int .i64 x4))))), (14, .one (.c (.own 0 0 0 (po20.length) none)))], [some (.arr 0 4 (po20.map eExpectation))]⟩) ?_ ?_
            · have h0o20 := h
              have h := ho
              clear ho
              obtain ⟨_, hk, h⟩ := Option.bind_eq_some_iff.1 h
              have hk := ck_some hk
              simp only [VW.down, Nat.reduceEqDiff, reduceCtorEq, Nat.reduceAdd, Nat.reduceLeDiff, Nat.reduceLT, Nat.reduceBEq, Nat.reduceSub, EE.down]
              refine bL (fun j s => ∃ (o20_2 : Nat) (o20_0 : List Expectation) (o20_1 : Int), (o20_2 ≤ x3.length ∧ j = x3.length - o20_2) ∧ s = ⟨[(1, .one (.c (.d (.v (.string x1))))), (3, .one (.c (.d (.sl (x3.map eB))))), (4, .one (.c (.d (.v (.int .i64 x4))))), (11, .one (.c (.own 0 0 0 (t1.length) none))), (14, .one (.c (.own 1 0 0 (o20_0.length) none))), (15, .one (.c (.d (.v (.int .i64 o20_1))))), (16, .one (.c (.d (.v (.int .i64 ((o20_2 : Int)))))))], [some (.arr 0 1 (t1.map eS)), some (.arr 0 4 (o20_0.map eExpectation))]⟩ ∧ F5_l20 t1 x1 x4 (x3.drop o20_2) o20_2 o20_0 o20_1 = some o20) (x3.length - 0) [some 0, some 1] ⟨0, t19, 0, ⟨hk.1, rfl⟩, rfl, h⟩ ?_
              rintro _ _ ⟨o20_2, o20_0, o20_1, ⟨hi, rfl⟩, rfl, h⟩
              simp only [VW.down, Nat.reduceEqDiff, reduceCtorEq, Nat.reduceAdd, Nat.reduceLeDiff, Nat.reduceLT, Nat.reduceBEq, Nat.reduceSub, EE.down]
              refine condS (fun c21 => ?_) (fun c21 => ?_)
              · obtain ⟨xo20, hxo20, hd⟩ := countY (show (o20_2 : Int) < (x3.length : Int) from c21)
                rw [hd, F5_l20] at h
                simp only [VW.down, Nat.reduceEqDiff, reduceCtorEq, Nat.reduceAdd, Nat.reduceLeDiff, Nat.reduceLT, Nat.reduceBEq, Nat.reduceSub, EE.down]
                obtain ⟨o22, ho, h⟩ := Option.bind_eq_some_iff.1 h
                refine cutS (fun s => ∃ po22, o22 = Sum.inr po22 ∧ s = ⟨[(1, .one (.c (.d (.v (.string x1))))), (3, .one (.c (.d (.sl (x3.map eB))))), (4, .one (.c (.d (.v (.int .i64 x4))))), (11, .one (.c (.own 0 0 0 (t1.length) none))), (14, .one (.c (.own 1 0 0 (po22.1.length) none))), (15, .one (.c (.d (.v (.int .i64 po22.2))))), (16, .one (.c (.d (.v (.int .i64 ((o20_2 : Int)))))))], [some (.arr 0 1 (t1.map eS)), some (.arr 0 4 (po22.1.map eExpectation))]⟩) ?_ ?_
                · have h0o22 := h
                  have h := ho
                  clear ho
                  simp only [VW.down, Nat.reduceEqDiff, reduceCtorEq, Nat.reduceAdd, Nat.reduceLeDiff, Nat.reduceLT, Nat.reduceBEq, Nat.reduceSub, EE.down]
                  obtain ⟨o23, ho, h⟩ := Option.bind_eq_some_iff.1 h
                  refine cutS (fun s => s = ⟨[(1, .one (.c (.d (.v (.string x1))))), (3, .one (.c (.d (.sl (x3.map eB))))), (4, .one (.c (.d (.v (.int .i64 x4))))), (11, .one (.c (.own 0 0 0 (t1.length) none))), (14, .one (.c (.own 1 0 0 (o20_0.length) none))), (15, .one (.c (.d (.v (.int .i64 o20_1))))), (16, .one (.c (.d (.v (.int .i64 ((o20_2 : Int))))))), (95, .one (.c (.d (.v (.bool o23)))))], [some (.arr 0 1 (t1.map eS)), some (.arr 0 4 (o20_0.map eExpectation))]⟩) ?_ ?_
                  · have h := ho
                    clear ho
                    simp only [VW.down, Nat.reduceEqDiff, reduceCtorEq, Nat.reduceAdd, Nat.reduceLeDiff, Nat.reduceLT, Nat.reduceBEq, Nat.reduceSub, EE.down]
                    obtain ⟨t24, ht24, h⟩ := Option.bind_eq_some_iff.1 h
                    refine callX_bor (F16_ok ht24) (by simp only [borAs, bors, hp, List.getElem?_cons_zero, List.getElem?_cons_succ, Option.join_some, List.drop_zero, bor_full', true_and, Nat.zero_add, List.length_map, Nat.le_refl, nrm, List.length_cons, List.length_nil, Nat.reduceAdd, Nat.reduceLeDiff, List.take_succ_cons, List.take_zero, List.take_nil, List.map_cons, List.map_nil, List.length_set, EE.down]) rfl ?_
                    simp only [VW.down, Nat.reduceEqDiff, reduceCtorEq, Nat.reduceAdd, Nat.reduceLeDiff, Nat.reduceLT, Nat.reduceBEq, Nat.reduceSub, EE.down]
                    refine guardSB (fun g25 => ?_) (fun g25 => ?_)
                    · have h := (if_pos g25).symm.trans h
                      simp only [VW.down, Nat.reduceEqDiff, reduceCtorEq, Nat.reduceAdd, Nat.reduceLeDiff, Nat.reduceLT, Nat.reduceBEq, Nat.reduceSub, EE.down]
                      obtain rfl := Option.some.inj h
                      exact eM [some 0, some 1] rfl
                    · have h := (if_neg g25).symm.trans h
                      simp only [VW.down, Nat.reduceEqDiff, reduceCtorEq, Nat.reduceAdd, Nat.reduceLeDiff, Nat.reduceLT, Nat.reduceBEq, Nat.reduceSub, EE.down]
                      obtain ⟨t26, ht26, h⟩ := Option.bind_eq_some_iff.1 h
                      refine callX_bor (F16_ok ht26) (by simp only [borAs, bors, hp, List.getElem?_cons_zero, List.getElem?_cons_succ, Option.join_some, List.drop_zero, bor_full', true_and, Nat.zero_add, List.length_map, Nat.le_refl, nrm, List.length_cons, List.length_nil, Nat.reduceAdd, Nat.reduceLeDiff, List.take_succ_cons, List.take_zero, List.take_nil, List.map_cons, List.map_nil, List.length_set, EE.down]) rfl ?_
                      simp only [VW.down, Nat.reduceEqDiff, reduceCtorEq, Nat.reduceAdd, Nat.reduceLeDiff, Nat.reduceLT, Nat.reduceBEq, Nat.reduceSub, EE.down]
                      refine guardSB (fun g27 => ?_) (fun g27 => ?_)
                      · have h := (if_pos g27).symm.trans h
                        simp only [VW.down, Nat.reduceEqDiff, reduceCtorEq, Nat.reduceAdd, Nat.reduceLeDiff, Nat.reduceLT, Nat.reduceBEq, Nat.reduceSub, EE.down]
                        obtain rfl := Option.some.inj h
                        exact eM [some 0, some 1] rfl
                      · have h := (if_neg g27).symm.trans h
                        simp only [VW.down, Nat.reduceEqDiff, reduceCtorEq, Nat.reduceAdd, Nat.reduceLeDiff, Nat.reduceLT, Nat.reduceBEq, Nat.reduceSub, EE.down]
                        obtain ⟨t28, ht28, h⟩ := Option.bind_eq_some_iff.1 h
                        refine callX_bor (F16_ok ht28) (by simp only [borAs, bors, hp, List.getElem?_cons_zero, List.getElem?_cons_succ, Option.join_some, List.drop_zero, bor_full', true_and, Nat.zero_add, List.length_map, Nat.le_refl, nrm, List.length_cons, List.length_nil, Nat.reduceAdd, Nat.reduceLeDiff, List.take_succ_cons, List.take_zero, List.take_nil, List.map_cons, List.map_nil, List.length_set, EE.down]) rfl ?_
                        simp only [VW.down, Nat.reduceEqDiff, reduceCtorEq, Nat.reduceAdd, Nat.reduceLeDiff, Nat.reduceLT, Nat.reduceBEq, Nat.reduceSub, EE.down]
                        obtain rfl := Option.some.inj h
                        exact eM [some 0, some 1] rfl
                  · rintro _ rfl
                    clear ho
                    simp only [VW.down, Nat.reduceEqDiff, reduceCtorEq, Nat.reduceAdd, Nat.reduceLeDiff, Nat.reduceLT, Nat.reduceBEq, Nat.reduceSub, EE.down]
                    refine condB (fun c29 => ?_) (fun c29 => ?_)
                    · have h := (if_pos c29).symm.trans h
                      simp only [VW.down, Nat.reduceEqDiff, reduceCtorEq, Nat.reduceAdd, Nat.reduceLeDiff, Nat.reduceLT, Nat.reduceBEq, Nat.reduceSub, EE.down]
                      obtain ⟨fh0o22, hfh0o22, rfl⟩ := Option.map_eq_some_iff.1 h
                      have h := hfh0o22.trans h0o22
                      obtain ⟨fh0o20, hfh0o20, rfl⟩ := Option.map_eq_some_iff.1 h
                      have h := hfh0o20.trans h0o20
                      obtain rfl := Option.some.inj h
                      exact eF []
                    · have h := (if_neg c29).symm.trans h
                      simp only [VW.down, Nat.reduceEqDiff, reduceCtorEq, Nat.reduceAdd, Nat.reduceLeDiff, Nat.reduceLT, Nat.reduceBEq, Nat.reduceSub, EE.down]
                      refine t_idxF (enc := eB) (xs := x3) rfl rfl hxo20 rfl ?_
                      simp only [VW.down, Nat.reduceEqDiff, reduceCtorEq, Nat.reduceAdd, Nat.reduceLeDiff, Nat.reduceLT, Nat.reduceBEq, Nat.reduceSub, EE.down]
                      refine condB (fun c30 => ?_) (fun c30 => ?_)
                      · have h := (if_pos c30).symm.trans h
                        simp only [VW.down, Nat.reduceEqDiff, reduceCtorEq, Nat.reduceAdd, Nat.reduceLeDiff, Nat.reduceLT, Nat.reduceBEq, Nat.reduceSub, EE.down]
                        obtain ⟨t31, ht31, h⟩ := Option.bind_eq_some_iff.1 h
                        refine callX_gen (as1 := [.c (.d (.sl (o20_0.map eExpectation))), .c (.d (.v (.string x1)))]) [(1, .arr 1 4 [])] [some 0, none] [] (F12_ok ht31) ⟨?_, rfl, ?_⟩ ?_ ?_ ?_ ?_ ?_ ?_ ?_ ?_
                        · simp only [ZZ.down, Nat.reduceEqDiff, reduceCtorEq, Nat.reduceAdd, Nat.reduceLeDiff, Nat.reduceLT, Nat.reduceBNe, EE.down]
                        · simp only [ZZ.down, Nat.reduceEqDiff, reduceCtorEq, Nat.reduceAdd, Nat.reduceLeDiff, Nat.reduceLT, Nat.reduceBNe, EE.down]
                        · simp only [ZZ.down, Nat.reduceEqDiff, reduceCtorEq, Nat.reduceAdd, Nat.reduceLeDiff, Nat.reduceLT, Nat.reduceBNe, EE.down]
                        · rfl
                        · rfl
                        · simp [liveAll, A1.live, C.live]
                        · rfl
                        · decide
                        · exact trivial
                        simp only [VW.down, Nat.reduceEqDiff, reduceCtorEq, Nat.reduceAdd, Nat.reduceLeDiff, Nat.reduceLT, Nat.reduceBEq, Nat.reduceSub, EE.down]
                        obtain rfl := Option.some.inj h
                        exact eM [some 0, some 2] ⟨_, rfl, rfl⟩
                      · have h := (if_neg c30).symm.trans h
                        simp only [VW.down, Nat.reduceEqDiff, reduceCtorEq, Nat.reduceAdd, Nat.reduceLeDiff, Nat.reduceLT, Nat.reduceBEq, Nat.reduceSub, EE.down]
                        obtain ⟨y32, hy32, h⟩ := Option.bind_eq_some_iff.1 h
                        refine t_idxO (enc := eS) (xs := t1) rfl rfl rfl (by first | rfl | simp only [List.length_set] | exact (clrL_len (slI_len (by assumption))).symm) hy32 ?_
                        simp only [VW.down, Nat.reduceEqDiff, reduceCtorEq, Nat.reduceAdd, Nat.reduceLeDiff, Nat.reduceLT, Nat.reduceBEq, Nat.reduceSub, EE.down]
                        refine LdRow.rd (rdI_some hy32).2.1 ?_
                        simp only [VW.down, Nat.reduceEqDiff, reduceCtorEq, Nat.reduceAdd, Nat.reduceLeDiff, Nat.reduceLT, Nat.reduceBEq, Nat.reduceSub, EE.down]
                        obtain ⟨t33, ht33, h⟩ := Option.bind_eq_some_iff.1 h
                        refine callX_gen (as1 := [.c (.d (.sl (o20_0.map eExpectation))), .c (.d (.v (.string x1))), .c (.d (.v (.string y32)))]) [(1, .arr 1 4 [])] [some 0, none] [] (F14_ok ht33) ⟨?_, rfl, ?_⟩ ?_ ?_ ?_ ?_ ?_ ?_ ?_ ?_
                        · simp only [ZZ.down, Nat.reduceEqDiff, reduceCtorEq, Nat.reduceAdd, Nat.reduceLeDiff, Nat.reduceLT, Nat.reduceBNe, EE.down]
                        · simp only [ZZ.down, Nat.reduceEqDiff, reduceCtorEq, Nat.reduceAdd, Nat.reduceLeDiff, Nat.reduceLT, Nat.reduceBNe, EE.down]
                        · simp only [ZZ.down, Nat.reduceEqDiff, reduceCtorEq, Nat.reduceAdd, Nat.reduceLeDiff, Nat.reduceLT, Nat.reduceBNe, EE.down]
                        · rfl
                        · rfl
                        · simp [liveAll, A1.live, C.live]
                        · rfl
                        · decide
                        · exact trivial
                        simp only [VW.down, Nat.reduceEqDiff, reduceCtorEq, Nat.reduceAdd, Nat.reduceLeDiff, Nat.reduceLT, Nat.reduceBEq, Nat.reduceSub, EE.down]
                        obtain rfl := Option.some.inj h
                        exact eM [some 0, some 2] ⟨_, rfl, rfl⟩
                · rintro _ ⟨po22, rfl, rfl⟩
                  clear ho
                  dsimp only at h
                  simp only [VW.down, Nat.reduceEqDiff, reduceCtorEq, Nat.reduceAdd, Nat.reduceLeDiff, Nat.reduceLT, Nat.reduceBEq, Nat.reduceSub, EE.down]
                  rw [wrapN (by omega)]
                  exact eL' (x3.length - (o20_2 + 1)) [some 0, some 1] ⟨o20_2 + 1, po22.1, po22.2, ⟨by omega, rfl⟩, rfl, h⟩ (by omega)
              · rw [countN (show ¬ ((o20_2 : Int) < (x3.length : Int)) from c21), F5_l20] at h
                simp only [VW.down, Nat.reduceEqDiff, reduceCtorEq, Nat.reduceAdd, Nat.reduceLeDiff, Nat.reduceLT, Nat.reduceBEq, Nat.reduceSub, EE.down]
                obtain rfl := Option.some.inj h
                exact eM [some 1] ⟨_, rfl, rfl⟩
            · rintro _ ⟨po20, rfl, rfl⟩
              clear ho
              dsimp only at h
              simp only [VW.down, Nat.reduceEqDiff, reduceCtorEq, Nat.reduceAdd, Nat.reduceLeDiff, Nat.reduceLT, Nat.reduceBEq, Nat.reduceSub, EE.down]
              obtain ⟨o35, ho, h⟩ := Option.bind_eq_some_iff.1 h
              refine cutS (fun s => s = ⟨[(10, .one (.c (.d (.v (.bool o35)))))], []⟩) ?_ ?_
              · have h := ho
                clear ho
                simp only [VW.down, Nat.reduceEqDiff, reduceCtorEq, Nat.reduceAdd, Nat.reduceLeDiff, Nat.reduceLT, Nat.reduceBEq, Nat.reduceSub, EE.down]
                obtain ⟨t36, ht36, h⟩ := Option.bind_eq_some_iff.1 h
                refine callX_n [] (F8_ok ht36) ?_ ?_ ?_ ?_ ?_ ?_
                · first | rfl | simp [nrmA, nrmC, nrm, A1.ren, C.ren, rn, List.length_set]
                · simp [liveAll, A1.live, C.live]
                · rfl
                · decide
                · exact trivial
                simp only [VW.down, Nat.reduceEqDiff, reduceCtorEq, Nat.reduceAdd, Nat.reduceLeDiff, Nat.reduceLT, Nat.reduceBEq, Nat.reduceSub, EE.down]
                refine guardSB (fun g37 => ?_) (fun g37 => ?_)
                · have h := (if_pos g37).symm.trans h
                  simp only [VW.down, Nat.reduceEqDiff, reduceCtorEq, Nat.reduceAdd, Nat.reduceLeDiff, Nat.reduceLT, Nat.reduceBEq, Nat.reduceSub, EE.down]
                  obtain ⟨t38, ht38, h⟩ := Option.bind_eq_some_iff.1 h
                  refine callX_bor (F16_ok ht38) (by simp only [borAs, bors, hp, List.getElem?_cons_zero, List.getElem?_cons_succ, Option.join_some, List.drop_zero, bor_full', true_and, Nat.zero_add, List.length_map, Nat.le_refl, nrm, List.length_cons, List.length_nil, Nat.reduceAdd, Nat.reduceLeDiff, List.take_succ_cons, List.take_zero, List.take_nil, List.map_cons, List.map_nil, List.length_set, EE.down]) rfl ?_
                  simp only [VW.down, Nat.reduceEqDiff, reduceCtorEq, Nat.reduceAdd, Nat.reduceLeDiff, Nat.reduceLT, Nat.reduceBEq, Nat.reduceSub, EE.down]
                  obtain rfl := Option.some.inj h
                  exact eM [] rfl
                · have h := (if_neg g37).symm.trans h
                  simp only [VW.down, Nat.reduceEqDiff, reduceCtorEq, Nat.reduceAdd, Nat.reduceLeDiff, Nat.reduceLT, Nat.reduceBEq, Nat.reduceSub, EE.down]
                  obtain rfl := Option.some.inj h
                  exact eM [] rfl
              · rintro _ rfl
                clear ho
                simp only [VW.down, Nat.reduceEqDiff, reduceCtorEq, Nat.reduceAdd, Nat.reduceLeDiff, Nat.reduceLT, Nat.reduceBEq, Nat.reduceSub, EE.down]
                obtain rfl := Option.some.inj h
                exact eF []

/- orchestrator/orchestratorlaw32.rest -/
def F19_l1 (x2 : ByteArray) : List Expectation → Nat → (List Expectation) → Option ((List Expectation))
  | [], o1_1, o1_0 => some o1_0
  | xo1 :: xs, o1_1, o1_0 => (((if ¬ (xo1.Key = x2) then (apI o1_0 ([xo1])).bind fun a5 => some a5 else some o1_0)).bind fun o3 => F19_l1 x2 xs (o1_1 + 1) o3)
def F19_l7 (x2 : ByteArray) : List Expectation → Nat → (List Expectation) → Option ((List Expectation))
  | [], o7_1, o7_0 => some o7_0
  | xo7 :: xs, o7_1, o7_0 => (((if ¬ (xo7.Key = x2) then (apI o7_0 ([xo7])).bind fun a11 => some a11 else some o7_0)).bind fun o9 => F19_l7 x2 xs (o7_1 + 1) o9)
def F19 (x0 : (List Expectation)) (x1 : (List Expectation)) (x2 : ByteArray) : Option (Bool) := (((ck (0 ≤ x0.length ∧ x0.length ≤ 4294967290)).bind fun u6 => F19_l1 x2 x0 0 ([])).bind fun o1 => (((ck (0 ≤ x1.length ∧ x1.length ≤ 4294967290)).bind fun u12 => F19_l7 x2 x1 0 ([])).bind fun o7 => (F9 o1 o7).bind fun t13 => some t13))
def a19 : AFn := ⟨54, [(.tmp 6)],
 (.seq (.reg [⟨(some 6), none, .mv (kB false), [], (.new [])⟩])
 (.seq (.reg [⟨(some 7), none, .mv kN, [], (.new [])⟩,
   ⟨(some 8), none, .mv kN, [], (.new [])⟩])
 (.seq (.seq (.reg [⟨(some 9), none, .mv (kI 0), [], (.new [])⟩])
 (.sem (.block 0 (.loop (.seq (.seq (.reg [⟨(some 11), none, .mv (.t 9), [], (.new [])⟩,
   ⟨(some 12), none, .mv (.t 0), [], (.new [])⟩,
   ⟨(some 13), none, .len (.t 12), [], (.new [])⟩,
   ⟨(some 14), none, .bin .lss (.t 11) (.t 13), [], (.new [])⟩])
 (.cond (.t 14)
 .skip
 (.exit 0)))
 (.seq (.sem (.block 1 (.seq (.reg [⟨(some 17), none, .mv (.t 0), [], (.new [])⟩,
   ⟨(some 18), none, .mv (.t 9), [], (.new [])⟩,
   ⟨(some 19), none, .indexA 4 (.t 17) (.t 18), [], (.new [])⟩,
   ⟨(some 20), none, .fieldA 0 (.t 19), [], (.new [])⟩,
   ⟨(some 21), none, .load none (.t 20), [], (.new [])⟩,
   ⟨(some 22), none, .mv (.t 2), [], (.new [])⟩,
   ⟨(some 23), none, .bin .neq (.t 21) (.t 22), [], (.new [])⟩])
 (.cond (.t 23)
 (.reg [⟨(some 24), none, .mv (.t 7), [], (.new [])⟩,
   ⟨(some 25), none, .mv (.t 0), [], (.new [])⟩,
   ⟨(some 26), none, .mv (.t 9), [], (.new [])⟩,
   ⟨(some 27), none, .indexA 4 (.t 25) (.t 26), [], (.new [])⟩,
   ⟨(some 28), none, .load (some 4) (.t 27), [], (.new [])⟩,
   ⟨(some 29), none, .bslice 4 [(.t 28)], [], (.new [])⟩,
   ⟨(some 30), none, .app 4 56 (.t 24) (.t 29), [], (.new [])⟩,
   ⟨(some 7), none, .mv (.t 30), [], (.new [])⟩])
 .skip))))
 (.reg [⟨(some 15), none, .mv (.t 9), [], (.new [])⟩,
   ⟨(some 16), none, .bin .add (.t 15) (kI 1), [], (.new [])⟩,
   ⟨(some 9), none, .mv (.t 16), [], (.new [])⟩])))))))
 (.seq (.seq (.reg [⟨(some 10), none, .mv (kI 0), [], (.new [])⟩])
 (.sem (.block 2 (.loop (.seq (.seq (.reg [⟨(some 31), none, .mv (.t 10), [], (.new [])⟩,
   ⟨(some 32), none, .mv (.t 1), [], (.new [])⟩,
   ⟨(some 33), none, .len (.t 32), [], (.new [])⟩,
   ⟨(some 34), none, .bin .lss (.t 31) (.t 33), [], (.new [])⟩])
 (.cond (.t 34)
 .skip
 (.exit 2)))
 (.seq (.sem (.block 3 (.seq (.reg [⟨(some 37), none, .mv (.t 1), [], (.new [])⟩,
   ⟨(some 38), none, .mv (.t 10), [], (.new [])⟩,
   ⟨(some 39), none, .indexA 4 (.t 37) (.t 38), [], (.new [])⟩,
   ⟨(some 40), none, .fieldA 0 (.t 39), [], (.new [])⟩,
   ⟨(some 41), none, .load none (.t 40), [], (.new [])⟩,
   ⟨(some 42), none, .mv (.t 2), [], (.new [])⟩,
   ⟨(some 43), none, .bin .neq (.t 41) (.t 42), [], (.new [])⟩])
 (.cond (.t 43)
 (.reg [⟨(some 44), none, .mv (.t 8), [], (.new [])⟩,
   ⟨(some 45), none, .mv (.t 1), [], (.new [])⟩,
   ⟨(some 46), none, .mv (.t 10), [], (.new [])⟩,
   ⟨(some 47), none, .indexA 4 (.t 45) (.t 46), [], (.new [])⟩,
   ⟨(some 48), none, .load (some 4) (.t 47), [], (.new [])⟩,
   ⟨(some 49), none, .bslice 4 [(.t 48)], [], (.new [])⟩,
   ⟨(some 50), none, .app 4 56 (.t 44) (.t 49), [], (.new [])⟩,
   ⟨(some 8), none, .mv (.t 50), [], (.new [])⟩])
 .skip))))
 (.reg [⟨(some 35), none, .mv (.t 10), [], (.new [])⟩,
   ⟨(some 36), none, .bin .add (.t 35) (kI 1), [], (.new [])⟩,
   ⟨(some 10), none, .mv (.t 36), [], (.new [])⟩])))))))
 (.seq (.reg [⟨(some 51), none, .mv (.t 7), [], (.new [])⟩,
   ⟨(some 52), none, .mv (.t 8), [], (.new [])⟩,
   ⟨(some 53), none, .call 9 [(.t 51), (.t 52)], [], (.new [])⟩,
   ⟨(some 6), none, .mv (.t 53), [], (.new [])⟩])
 .ret)))))⟩
theorem a19_ok : afn Try.prog 19 = some a19.er := by kernel_rfl
theorem F19_ok {x0 : (List Expectation)} {x1 : (List Expectation)} {x2 : ByteArray} {r : Bool} (h : F19 x0 x1 x2 = some r) : CallD Try.prog 19 [.c (.d (.sl (x0.map eExpectation))), .c (.d (.sl (x1.map eExpectation))), .c (.d (.v (.string x2)))] [] (tupV [.c (.d (.v (.bool r)))]) [] := by
  refine callS a19_ok (by simp [a19]) ?_
  rw [F19] at h
  simp only [a19, VW.down, Nat.reduceEqDiff, reduceCtorEq, Nat.reduceAdd, Nat.reduceLeDiff, Nat.reduceLT, Nat.reduceBEq, Nat.reduceSub, EE.down]
  obtain ⟨o1, ho, h⟩ := Option.bind_eq_some_iff.1 h
  refine cutS (fun s => s = ⟨[(1, .one (.c (.d (.sl (x1.map eExpectation))))), (2, .one (.c (.d (.v (.string x2))))), (7, .one (.c (.own 0 0 0 (o1.length) none))), (8, .one (.c (.d (.v (.slice none 0 0)))))], [some (.arr 0 4 (o1.map eExpectation))]⟩) ?_ ?_
  · have h := ho
    clear ho
    obtain ⟨_, hk, h⟩ := Option.bind_eq_some_iff.1 h
    have hk := ck_some hk
    simp only [VW.down, Nat.reduceEqDiff, reduceCtorEq, Nat.reduceAdd, Nat.reduceLeDiff, Nat.reduceLT, Nat.reduceBEq, Nat.reduceSub, EE.down]
    refine bL (fun j s => ∃ (o1_1 : Nat) (o1_0 : List Expectation), (o1_1 ≤ x0.length ∧ j = x0.length - o1_1) ∧ s = ⟨[(0, .one (.c (.d (.sl (x0.map eExpectation))))), (1, .one (.c (.d (.sl (x1.map eExpectation))))), (2, .one (.c (.d (.v (.string x2))))), (7, .one (.c (.own 0 0 0 (o1_0.length) none))), (8, .one (.c (.d (.v (.slice none 0 0))))), (9, .one (.c (.d (.v (.int .i64 ((o1_1 : Int)))))))], [some (.arr 0 4 (o1_0.map eExpectation))]⟩ ∧ F19_l1 x2 (x0.drop o1_1) o1_1 o1_0 = some o1) (x0.length - 0) [none] ⟨0, [], ⟨hk.1, rfl⟩, rfl, h⟩ ?_
    rintro _ _ ⟨o1_1, o1_0, ⟨hi, rfl⟩, rfl, h⟩
    simp only [VW.down, Nat.reduceEqDiff, reduceCtorEq, Nat.reduceAdd, Nat.reduceLeDiff, Nat.reduceLT, Nat.reduceBEq, Nat.reduceSub, EE.down]
    refine condS (fun c2 => ?_) (fun c2 => ?_)
    · obtain ⟨xo1, hxo1, hd⟩ := countY (show (o1_1 : Int) < (x0.length : Int) from c2)
      rw [hd, F19_l1] at h
      simp only [VW.down, Nat.reduceEqDiff, reduceCtorEq, Nat.reduceAdd, Nat.reduceLeDiff, Nat.reduceLT, Nat.reduceBEq, Nat.reduceSub, EE.down]
      obtain ⟨o3, ho, h⟩ := Option.bind_eq_some_iff.1 h
      refine cutS (fun s => s = ⟨[(0, .one (.c (.d (.sl (x0.map eExpectation))))), (1, .one (.c (.d (.sl (x1.map eExpectation))))), (2, .one (.c (.d (.v (.string x2))))), (7, .one (.c (.own 0 0 0 (o3.length) none))), (8, .one (.c (.d (.v (.slice none 0 0))))), (9, .one (.c (.d (.v (.int .i64 ((o1_1 : Int)))))))], [some (.arr 0 4 (o3.map eExpectation))]⟩) ?_ ?_
      · have h := ho
        clear ho
        simp only [VW.down, Nat.reduceEqDiff, reduceCtorEq, Nat.reduceAdd, Nat.reduceLeDiff, Nat.reduceLT, Nat.reduceBEq, Nat.reduceSub, EE.down]
        refine t_idxF (enc := eExpectation) (xs := x0) rfl rfl hxo1 rfl ?_
        simp only [VW.down, Nat.reduceEqDiff, reduceCtorEq, Nat.reduceAdd, Nat.reduceLeDiff, Nat.reduceLT, Nat.reduceBEq, Nat.reduceSub, EE.down]
        refine condS (fun c4 => ?_) (fun c4 => ?_)
        · have h := (if_pos c4).symm.trans h
          simp only [VW.down, Nat.reduceEqDiff, reduceCtorEq, Nat.reduceAdd, Nat.reduceLeDiff, Nat.reduceLT, Nat.reduceBEq, Nat.reduceSub, EE.down]
          refine t_idxF (enc := eExpectation) (xs := x0) rfl rfl hxo1 rfl ?_
          simp only [VW.down, Nat.reduceEqDiff, reduceCtorEq, Nat.reduceAdd, Nat.reduceLeDiff, Nat.reduceLT, Nat.reduceBEq, Nat.reduceSub, EE.down]
          refine t_bslice (enc := eExpectation) (ys := [xo1]) rfl rfl (by simp [A1.cells]) (by first | rfl | (simp only [List.drop_zero, take_mapL]; rfl)) ?_
          simp only [VW.down, Nat.reduceEqDiff, reduceCtorEq, Nat.reduceAdd, Nat.reduceLeDiff, Nat.reduceLT, Nat.reduceBEq, Nat.reduceSub, EE.down]
          obtain ⟨a5, ha5, h⟩ := Option.bind_eq_some_iff.1 h
          refine t_app (enc := eExpectation) (xs := o1_0) rfl rfl (by first | rfl | simp only [List.length_set] | exact (clrL_len (slI_len (by assumption))).symm) rfl (rows_full (enc := eExpectation) (by first | rfl | simp only [List.length_set] | exact (clrL_len (slI_len (by assumption))).symm) rfl) ha5 ?_
          simp only [VW.down, Nat.reduceEqDiff, reduceCtorEq, Nat.reduceAdd, Nat.reduceLeDiff, Nat.reduceLT, Nat.reduceBEq, Nat.reduceSub, EE.down]
          obtain rfl := Option.some.inj h
          exact eM [some 0] rfl
        · have h := (if_neg c4).symm.trans h
          simp only [VW.down, Nat.reduceEqDiff, reduceCtorEq, Nat.reduceAdd, Nat.reduceLeDiff, Nat.reduceLT, Nat.reduceBEq, Nat.reduceSub, EE.down]
          obtain rfl := Option.some.inj h
          exact eM [some 0] rfl
      · rintro _ rfl
        clear ho
        simp only [VW.down, Nat.reduceEqDiff, reduceCtorEq, Nat.reduceAdd, Nat.reduceLeDiff, Nat.reduceLT, Nat.reduceBEq, Nat.reduceSub, EE.down]
        rw [wrapN (by omega)]
        exact eL' (x0.length - (o1_1 + 1)) [some 0] ⟨o1_1 + 1, o3, ⟨by omega, rfl⟩, rfl, h⟩ (by omega)
    · rw [countN (show ¬ ((o1_1 : Int) < (x0.length : Int)) from c2), F19_l1] at h
      simp only [VW.down, Nat.reduceEqDiff, reduceCtorEq, Nat.reduceAdd, Nat.reduceLeDiff, Nat.reduceLT, Nat.reduceBEq, Nat.reduceSub, EE.down]
      obtain rfl := Option.some.inj h
      exact eM [some 0] rfl
  · rintro _ rfl
    clear ho
    simp only [VW.down, Nat.reduceEqDiff, reduceCtorEq, Nat.reduceAdd, Nat.reduceLeDiff, Nat.reduceLT, Nat.reduceBEq, Nat.reduceSub, EE.down]
    obtain ⟨o7, ho, h⟩ := Option.bind_eq_some_iff.1 h
    refine cutS (fun s => s = ⟨[(7, .one (.c (.own 0 0 0 (o1.length) none))), (8, .one (.c (.own 1 0 0 (o7.length) none)))], [some (.arr 0 4 (o1.map eExpectation)), some (.arr 0 4 (o7.map eExpectation))]⟩) ?_ ?_
    · have h := ho
      clear ho
      obtain ⟨_, hk, h⟩ := Option.bind_eq_some_iff.1 h
      have hk := ck_some hk
      simp only [VW.down, Nat.reduceEqDiff, reduceCtorEq, Nat.reduceAdd, Nat.reduceLeDiff, Nat.reduceLT, Nat.reduceBEq, Nat.reduceSub, EE.down]
      refine bL (fun j s => ∃ (o7_1 : Nat) (o7_0 : List Expectation), (o7_1 ≤ x1.length ∧ j = x1.length - o7_1) ∧ s = ⟨[(1, .one (.c (.d (.sl (x1.map eExpectation))))), (2, .one (.c (.d (.v (.string x2))))), (7, .one (.c (.own 0 0 0 (o1.length) none))), (8, .one (.c (.own 1 0 0 (o7_0.length) none))), (10, .one (.c (.d (.v (.int .i64 ((o7_1 : Int)))))))], [some (.arr 0 4 (o1.map eExpectation)), some (.arr 0 4 (o7_0.map eExpectation))]⟩ ∧ F19_l7 x2 (x1.drop o7_1) o7_1 o7_0 = some o7) (x1.length - 0) [some 0, none] ⟨0, [], ⟨hk.1, rfl⟩, rfl, h⟩ ?_
      rintro _ _ ⟨o7_1, o7_0, ⟨hi, rfl⟩, rfl, h⟩
      simp only [VW.down, Nat.reduceEqDiff, reduceCtorEq, Nat.reduceAdd, Nat.reduceLeDiff, Nat.reduceLT, Nat.reduceBEq, Nat.reduceSub, EE.down]
      refine condS (fun c8 => ?_) (fun c8 => ?_)
      · obtain ⟨xo7, hxo7, hd⟩ := countY (show (o7_1 : Int) < (x1.length : Int) from c8)
        rw [hd, F19_l7] at h
        simp only [VW.down, Nat.reduceEqDiff, reduceCtorEq, Nat.reduceAdd, Nat.reduceLeDiff, Nat.reduceLT, Nat.reduceBEq, Nat.reduceSub, EE.down]
        obtain ⟨o9, ho, h⟩ := Option.bind_eq_some_iff.1 h
        refine cutS (fun s => s = ⟨[(1, .one (.c (.d (.sl (x1.map eExpectation))))), (2, .one (.c (.d (.v (.string x2))))), (7, .one (.c (.own 0 0 0 (o1.length) none))), (8, .one (.c (.own 1 0 0 (o9.length) none))), (10, .one (.c (.d (.v (.int .i64 ((o7_1 : Int)))))))], [some (.arr 0 4 (o1.map eExpectation)), some (.arr 0 4 (o9.map eExpectation))]⟩) ?_ ?_
        · have h := ho
          clear ho
          simp only [VW.down, Nat.reduceEqDiff, reduceCtorEq, Nat.reduceAdd, Nat.reduceLeDiff, Nat.reduceLT, Nat.reduceBEq, Nat.reduceSub, EE.down]
          refine t_idxF (enc := eExpectation) (xs := x1) rfl rfl hxo7 rfl ?_
          simp only [VW.down, Nat.reduceEqDiff, reduceCtorEq, Nat.reduceAdd, Nat.reduceLeDiff, Nat.reduceLT, Nat.reduceBEq, Nat.reduceSub, EE.down]
          refine condS (fun c10 => ?_) (fun c10 => ?_)
          · have h := (if_pos c10).symm.trans h
            simp only [VW.down, Nat.reduceEqDiff, reduceCtorEq, Nat.reduceAdd, Nat.reduceLeDiff, Nat.reduceLT, Nat.reduceBEq, Nat.reduceSub, EE.down]
            refine t_idxF (enc := eExpectation) (xs := x1) rfl rfl hxo7 rfl ?_
            simp only [VW.down, Nat.reduceEqDiff, reduceCtorEq, Nat.reduceAdd, Nat.reduceLeDiff, Nat.reduceLT, Nat.reduceBEq, Nat.reduceSub, EE.down]
            refine t_bslice (enc := eExpectation) (ys := [xo7]) rfl rfl (by simp [A1.cells]) (by first | rfl | (simp only [List.drop_zero, take_mapL]; rfl)) ?_
            simp only [VW.down, Nat.reduceEqDiff, reduceCtorEq, Nat.reduceAdd, Nat.reduceLeDiff, Nat.reduceLT, Nat.reduceBEq, Nat.reduceSub, EE.down]
            obtain ⟨a11, ha11, h⟩ := Option.bind_eq_some_iff.1 h
            refine t_app (enc := eExpectation) (xs := o7_0) rfl rfl (by first | rfl | simp only [List.length_set] | exact (clrL_len (slI_len (by assumption))).symm) rfl (rows_full (enc := eExpectation) (by first | rfl | simp only [List.length_set] | exact (clrL_len (slI_len (by assumption))).symm) rfl) ha11 ?_
            simp only [VW.down, Nat.reduceEqDiff, reduceCtorEq, Nat.reduceAdd, Nat.reduceLeDiff, Nat.reduceLT, Nat.reduceBEq, Nat.reduceSub, EE.down]
            obtain rfl := Option.some.inj h
            exact eM [some 0, some 1] rfl
          · have h := (if_neg c10).symm.trans h
            simp only [VW.down, Nat.reduceEqDiff, reduceCtorEq, Nat.reduceAdd, Nat.reduceLeDiff, Nat.reduceLT, Nat.reduceBEq, Nat.reduceSub, EE.down]
            obtain rfl := Option.some.inj h
            exact eM [some 0, some 1] rfl
        · rintro _ rfl
          clear ho
          simp only [VW.down, Nat.reduceEqDiff, reduceCtorEq, Nat.reduceAdd, Nat.reduceLeDiff, Nat.reduceLT, Nat.reduceBEq, Nat.reduceSub, EE.down]
          rw [wrapN (by omega)]
          exact eL' (x1.length - (o7_1 + 1)) [some 0, some 1] ⟨o7_1 + 1, o9, ⟨by omega, rfl⟩, rfl, h⟩ (by omega)
      · rw [countN (show ¬ ((o7_1 : Int) < (x1.length : Int)) from c8), F19_l7] at h
        simp only [VW.down, Nat.reduceEqDiff, reduceCtorEq, Nat.reduceAdd, Nat.reduceLeDiff, Nat.reduceLT, Nat.reduceBEq, Nat.reduceSub, EE.down]
        obtain rfl := Option.some.inj h
        exact eM [some 0, some 1] rfl
    · rintro _ rfl
      clear ho
      simp only [VW.down, Nat.reduceEqDiff, reduceCtorEq, Nat.reduceAdd, Nat.reduceLeDiff, Nat.reduceLT, Nat.reduceBEq, Nat.reduceSub, EE.down]
      obtain ⟨t13, ht13, h⟩ := Option.bind_eq_some_iff.1 h
      refine callX_bor (F9_ok ht13) (by simp only [borAs, bors, hp, List.getElem?_cons_zero, List.getElem?_cons_succ, Option.join_some, List.drop_zero, bor_full', true_and, Nat.zero_add, List.length_map, Nat.le_refl, nrm, List.length_cons, List.length_nil, Nat.reduceAdd, Nat.reduceLeDiff, List.take_succ_cons, List.take_zero, List.take_nil, List.map_cons, List.map_nil, List.length_set, EE.down]) rfl ?_
      simp only [VW.down, Nat.reduceEqDiff, reduceCtorEq, Nat.reduceAdd, Nat.reduceLeDiff, Nat.reduceLT, Nat.reduceBEq, Nat.reduceSub, EE.down]
      obtain rfl := Option.some.inj h
      exact eF []

/- orchestrator/orchestratorlaw32.ExpectOthers -/
def F6 (x0 : (List Expectation)) (x1 : ByteArray) (x2 : ByteArray) (x3 : ByteArray) (x4 : (List ByteArray)) : Option (Bool) := (((F7 x0).bind fun t2 => (if (nb t2) = true then some true else some (decide (30 < (x4.length : Int))))).bind fun o1 => (if o1 = true then (F8).bind fun t5 => some t5 else (F14 x0 x2 x3).bind fun t6 => (F12 t6 x1).bind fun t7 => (F12 x0 x1).bind fun t8 => (F14 t8 x2 x3).bind fun t9 => (F9 t7 t9).bind fun t10 => (if (nb t10) = true then some false else (((F8).bind fun t13 => (if t13 = true then (F12 x0 x1).bind fun t15 => (F19 t15 x0 x1).bind fun t16 => (if t16 = true then (F14 x0 x1 x3).bind fun t18 => (F19 t18 x0 x1).bind fun t19 => (if t19 = true then (F10 x0 x1 3 x4 5).bind fun t21 => (F19 t21 x0 x1).bind fun t22 => some t22 else some false) else some false) else some false)).bind fun o12 => some o12))))
def a6 : AFn := ⟨61, [(.tmp 10)],
 (.seq (.reg [⟨(some 10), none, .mv (kB false), [], (.new [])⟩])
 (.seq (.seq (.sem (.reg [⟨(some 11), none, .mv (.t 0), [], (.new [])⟩,
   ⟨(some 12), none, .call 7 [(.t 11)], [], (.new [])⟩,
   ⟨(some 13), none, .not (.t 12), [], (.new [])⟩,
   ⟨(some 14), none, .mv (.t 13), [], (.new [])⟩,
   ⟨(some 15), (some (14, false)), .mv (.t 4), [], (.new [])⟩,
   ⟨(some 16), (some (14, false)), .len (.t 15), [], (.new [])⟩,
   ⟨(some 17), (some (14, false)), .bin .gtr (.t 16) (kI 30), [], (.new [])⟩,
   ⟨(some 18), none, .pick (.t 14) (kB true) (.t 17), [], (.new [])⟩]))
 (.cond (.t 18)
 (.seq (.reg [⟨(some 19), none, .call 8 [], [], (.new [])⟩,
   ⟨(some 10), none, .mv (.t 19), [], (.new [])⟩])
 .ret)
 .skip))
 (.seq (.seq (.reg [⟨(some 20), none, .mv (.t 0), [], (.new [])⟩,
   ⟨(some 21), none, .mv (.t 2), [], (.new [])⟩,
   ⟨(some 22), none, .mv (.t 3), [], (.new [])⟩,
   ⟨(some 23), none, .call 14 [(.t 20), (.t 21), (.t 22)], [], (.new [])⟩,
   ⟨(some 24), none, .mv (.t 1), [], (.new [])⟩,
   ⟨(some 25), none, .call 12 [(.t 23), (.t 24)], [], (.new [])⟩,
   ⟨(some 26), none, .mv (.t 0), [], (.new [])⟩,
   ⟨(some 27), none, .mv (.t 1), [], (.new [])⟩,
   ⟨(some 28), none, .call 12 [(.t 26), (.t 27)], [], (.new [])⟩,
   ⟨(some 29), none, .mv (.t 2), [], (.new [])⟩,
   ⟨(some 30), none, .mv (.t 3), [], (.new [])⟩,
   ⟨(some 31), none, .call 14 [(.t 28), (.t 29), (.t 30)], [], (.new [])⟩,
   ⟨(some 32), none, .call 9 [(.t 25), (.t 31)], [], (.new [])⟩,
   ⟨(some 33), none, .not (.t 32), [], (.new [])⟩])
 (.cond (.t 33)
 (.seq (.reg [⟨(some 10), none, .mv (kB false), [], (.new [])⟩])
 .ret)
 .skip))
 (.seq (.sem (.reg [⟨(some 34), none, .call 8 [], [], (.new [])⟩,
   ⟨(some 35), none, .mv (.t 34), [], (.new [])⟩,
   ⟨(some 36), (some (35, true)), .mv (.t 0), [], (.new [])⟩,
   ⟨(some 37), (some (35, true)), .mv (.t 1), [], (.new [])⟩,
   ⟨(some 38), (some (35, true)), .call 12 [(.t 36), (.t 37)], [], (.new [])⟩,
   ⟨(some 39), (some (35, true)), .mv (.t 0), [], (.new [])⟩,
   ⟨(some 40), (some (35, true)), .mv (.t 1), [], (.new [])⟩,
   ⟨(some 41), (some (35, true)), .call 19 [(.t 38), (.t 39), (.t 40)], [], (.new [])⟩,
   ⟨(some 42), none, .pick (.t 35) (.t 41) (kB false), [], (.new [])⟩,
   ⟨(some 43), none, .mv (.t 42), [], (.new [])⟩,
   ⟨(some 44), (some (43, true)), .mv (.t 0), [], (.new [])⟩,
   ⟨(some 45), (some (43, true)), .mv (.t 1), [], (.new [])⟩,
   ⟨(some 46), (some (43, true)), .mv (.t 3), [], (.new [])⟩,
   ⟨(some 47), (some (43, true)), .call 14 [(.t 44), (.t 45), (.t 46)], [], (.new [])⟩,
   ⟨(some 48), (some (43, true)), .mv (.t 0), [], (.new [])⟩,
   ⟨(some 49), (some (43, true)), .mv (.t 1), [], (.new [])⟩,
   ⟨(some 50), (some (43, true)), .call 19 [(.t 47), (.t 48), (.t 49)], [], (.new [])⟩,
   ⟨(some 51), none, .pick (.t 43) (.t 50) (kB false), [], (.new [])⟩,
   ⟨(some 52), none, .mv (.t 51), [], (.new [])⟩,
   ⟨(some 53), (some (52, true)), .mv (.t 0), [], (.new [])⟩,
   ⟨(some 54), (some (52, true)), .mv (.t 1), [], (.new [])⟩,
   ⟨(some 55), (some (52, true)), .mv (.t 4), [], (.new [])⟩,
   ⟨(some 56), (some (52, true)), .call 10 [(.t 53), (.t 54), (kI 3), (.t 55), (kI 5)], [], (.new [])⟩,
   ⟨(some 57), (some (52, true)), .mv (.t 0), [], (.new [])⟩,
   ⟨(some 58), (some (52, true)), .mv (.t 1), [], (.new [])⟩,
   ⟨(some 59), (some (52, true)), .call 19 [(.t 56), (.t 57), (.t 58)], [], (.new [])⟩,
   ⟨(some 60), none, .pick (.t 52) (.t 59) (kB false), [], (.new [])⟩,
   ⟨(some 10), none, .mv (.t 60), [], (.new [])⟩]))
 .ret))))⟩
theorem a6_ok : afn Try.prog 6 = some a6.er := by kernel_rfl
theorem F6_ok {x0 : (List Expectation)} {x1 : ByteArray} {x2 : ByteArray} {x3 : ByteArray} {x4 : (List ByteArray)} {r : Bool} (h : F6 x0 x1 x2 x3 x4 = some r) : CallD Try.prog 6 [.c (.d (.sl (x0.map eExpectation))), .c (.d (.v (.string x1))), .c (.d (.v (.string x2))), .c (.d (.v (.string x3))), .c (.d (.sl (x4.map eS)))] [] (tupV [.c (.d (.v (.bool r)))]) [] := by
  refine callS a6_ok (by simp [a6]) ?_
  rw [F6] at h
  simp only [a6, VW.down, Nat.reduceEqDiff, reduceCtorEq, Nat.reduceAdd, Nat.reduceLeDiff, Nat.reduceLT, Nat.reduceBEq, Nat.reduceSub, EE.down]
  obtain ⟨o1, ho, h⟩ := Option.bind_eq_some_iff.1 h
  refine cutS (fun s => s = ⟨[(0, .one (.c (.d (.sl (x0.map eExpectation))))), (1, .one (.c (.d (.v (.string x1))))), (2, .one (.c (.d (.v (.string x2))))), (3, .one (.c (.d (.v (.string x3))))), (4, .one (.c (.d (.sl (x4.map eS))))), (18, .one (.c (.d (.v (.bool o1)))))], []⟩) ?_ ?_
  · have h := ho
    clear ho
    simp only [VW.down, Nat.reduceEqDiff, reduceCtorEq, Nat.reduceAdd, Nat.reduceLeDiff, Nat.reduceLT, Nat.reduceBEq, Nat.reduceSub, EE.down]
    obtain ⟨t2, ht2, h⟩ := Option.bind_eq_some_iff.1 h
    refine callX_n [] (F7_ok ht2) ?_ ?_ ?_ ?_ ?_ ?_
    · first | rfl | simp [nrmA, nrmC, nrm, A1.ren, C.ren, rn, List.length_set]
    · simp [liveAll, A1.live, C.live]
    · rfl
    · decide
    · exact trivial
    simp only [VW.down, Nat.reduceEqDiff, reduceCtorEq, Nat.reduceAdd, Nat.reduceLeDiff, Nat.reduceLT, Nat.reduceBEq, Nat.reduceSub, EE.down]
    refine guardSB (fun g3 => ?_) (fun g3 => ?_)
    · have h := (if_pos g3).symm.trans h
      simp only [VW.down, Nat.reduceEqDiff, reduceCtorEq, Nat.reduceAdd, Nat.reduceLeDiff, Nat.reduceLT, Nat.reduceBEq, Nat.reduceSub, EE.down]
      obtain rfl := Option.some.inj h
      exact eM [] rfl
    · have h := (if_neg g3).symm.trans h
      simp only [VW.down, Nat.reduceEqDiff, reduceCtorEq, Nat.reduceAdd, Nat.reduceLeDiff, Nat.reduceLT, Nat.reduceBEq, Nat.reduceSub, EE.down]
      obtain rfl := Option.some.inj h
      exact eM [] rfl
  · rintro _ rfl
    clear ho
    simp only [VW.down, Nat.reduceEqDiff, reduceCtorEq, Nat.reduceAdd, Nat.reduceLeDiff, Nat.reduceLT, Nat.reduceBEq, Nat.reduceSub, EE.down]
    refine condB (fun c4 => ?_) (fun c4 => ?_)
    · have h := (if_pos c4).symm.trans h
      simp only [VW.down, Nat.reduceEqDiff, reduceCtorEq, Nat.reduceAdd, Nat.reduceLeDiff, Nat.reduceLT, Nat.reduceBEq, Nat.reduceSub, EE.down]
      obtain ⟨t5, ht5, h⟩ := Option.bind_eq_some_iff.1 h
      refine callX_n [] (F8_ok ht5) ?_ ?_ ?_ ?_ ?_ ?_
      · first | rfl | simp [nrmA, nrmC, nrm, A1.ren, C.ren, rn, List.length_set]
      · simp [liveAll, A1.live, C.live]
      · rfl
      · decide
      · exact trivial
      simp only [VW.down, Nat.reduceEqDiff, reduceCtorEq, Nat.reduceAdd, Nat.reduceLeDiff, Nat.reduceLT, Nat.reduceBEq, Nat.reduceSub, EE.down]
      obtain rfl := Option.some.inj h
      exact eF []
    · have h := (if_neg c4).symm.trans h
      simp only [VW.down, Nat.reduceEqDiff, reduceCtorEq, Nat.reduceAdd, Nat.reduceLeDiff, Nat.reduceLT, Nat.reduceBEq, Nat.reduceSub, EE.down]
      obtain ⟨t6, ht6, h⟩ := Option.bind_eq_some_iff.1 h
      refine callX_n [] (F14_ok ht6) ?_ ?_ ?_ ?_ ?_ ?_
      · first | rfl | simp [nrmA, nrmC, nrm, A1.ren, C.ren, rn, List.length_set]
      · simp [liveAll, A1.live, C.live]
      · rfl
      · decide
      · exact trivial
      simp only [VW.down, Nat.reduceEqDiff, reduceCtorEq, Nat.reduceAdd, Nat.reduceLeDiff, Nat.reduceLT, Nat.reduceBEq, Nat.reduceSub, EE.down]
      obtain ⟨t7, ht7, h⟩ := Option.bind_eq_some_iff.1 h
      refine callX_gen (as1 := [.c (.d (.sl (t6.map eExpectation))), .c (.d (.v (.string x1)))]) [(0, .arr 1 4 [])] [none] [] (F12_ok ht7) ⟨?_, rfl, ?_⟩ ?_ ?_ ?_ ?_ ?_ ?_ ?_ ?_
      · simp only [ZZ.down, Nat.reduceEqDiff, reduceCtorEq, Nat.reduceAdd, Nat.reduceLeDiff, Nat.reduceLT, Nat.reduceBNe, EE.down]
      · simp only [ZZ.down, Nat.reduceEqDiff, reduceCtorEq, Nat.reduceAdd, Nat.reduceLeDiff, Nat.reduceLT, Nat.reduceBNe, EE.down]
      · simp only [ZZ.down, Nat.reduceEqDiff, reduceCtorEq, Nat.reduceAdd, Nat.reduceLeDiff, Nat.reduceLT, Nat.reduceBNe, EE.down]
      · rfl
      · rfl
      · simp [liveAll, A1.live, C.live]
      · rfl
      · decide
      · exact trivial
      simp only [VW.down, Nat.reduceEqDiff, reduceCtorEq, Nat.reduceAdd, Nat.reduceLeDiff, Nat.reduceLT, Nat.reduceBEq, Nat.reduceSub, EE.down]
      obtain ⟨t8, ht8, h⟩ := Option.bind_eq_some_iff.1 h
      refine callX_n [] (F12_ok ht8) ?_ ?_ ?_ ?_ ?_ ?_
      · first | rfl | simp [nrmA, nrmC, nrm, A1.ren, C.ren, rn, List.length_set]
      · simp [liveAll, A1.live, C.live]
      · rfl
      · decide
      · exact trivial
      simp only [VW.down, Nat.reduceEqDiff, reduceCtorEq, Nat.reduceAdd, Nat.reduceLeDiff, Nat.reduceLT, Nat.reduceBEq, Nat.reduceSub, EE.down]
      obtain ⟨t9, ht9, h⟩ := Option.bind_eq_some_iff.1 h
      refine callX_gen (as1 := [.c (.d (.sl (t8.map eExpectation))), .c (.d (.v (.string x2))), .c (.d (.v (.string x3)))]) [(2, .arr 1 4 [])] [some 0, some 1, none] [] (F14_ok ht9) ⟨?_, rfl, ?_⟩ ?_ ?_ ?_ ?_ ?_ ?_ ?_ ?_
      · simp only [ZZ.down, Nat.reduceEqDiff, reduceCtorEq, Nat.reduceAdd, Nat.reduceLeDiff, Nat.reduceLT, Nat.reduceBNe, EE.down]
      · simp only [ZZ.down, Nat.reduceEqDiff, reduceCtorEq, Nat.reduceAdd, Nat.reduceLeDiff, Nat.reduceLT, Nat.reduceBNe, EE.down]
      · simp only [ZZ.down, Nat.reduceEqDiff, reduceCtorEq, Nat.reduceAdd, Nat.reduceLeDiff, Nat.reduceLT, Nat.reduceBNe, EE.down]
      · rfl
      · rfl
      · simp [liveAll, A1.live, C.live]
      · rfl
      · decide
      · exact trivial
      simp only [VW.down, Nat.reduceEqDiff, reduceCtorEq, Nat.reduceAdd, Nat.reduceLeDiff, Nat.reduceLT, Nat.reduceBEq, Nat.reduceSub, EE.down]
      obtain ⟨t10, ht10, h⟩ := Option.bind_eq_some_iff.1 h
      refine callX_bor (F9_ok ht10) (by simp only [borAs, bors, hp, List.getElem?_cons_zero, List.getElem?_cons_succ, Option.join_some, List.drop_zero, bor_full', true_and, Nat.zero_add, List.length_map, Nat.le_refl, nrm, List.length_cons, List.length_nil, Nat.reduceAdd, Nat.reduceLeDiff, List.take_succ_cons, List.take_zero, List.take_nil, List.map_cons, List.map_nil, List.length_set, EE.down]) rfl ?_
      simp only [VW.down, Nat.reduceEqDiff, reduceCtorEq, Nat.reduceAdd, Nat.reduceLeDiff, Nat.reduceLT, Nat.reduceBEq, Nat.reduceSub, EE.down]
      refine condB (fun c11 => ?_) (fun c11 => ?_)
      · have h := (if_pos c11).symm.trans h
        simp only [VW.down, Nat.reduceEqDiff, reduceCtorEq, Nat.reduceAdd, Nat.reduceLeDiff, Nat.reduceLT, Nat.reduceBEq, Nat.reduceSub, EE.down]
        obtain rfl := Option.some.inj h
        exact eF []
      · have h := (if_neg c11).symm.trans h
        simp only [VW.down, Nat.reduceEqDiff, reduceCtorEq, Nat.reduceAdd, Nat.reduceLeDiff, Nat.reduceLT, Nat.reduceBEq, Nat.reduceSub, EE.down]
        obtain ⟨o12, ho, h⟩ := Option.bind_eq_some_iff.1 h
        refine cutS (fun s => s = ⟨[(10, .one (.c (.d (.v (.bool o12)))))], []⟩) ?_ ?_
        · have h := ho
          clear ho
          simp only [VW.down, Nat.reduceEqDiff, reduceCtorEq, Nat.reduceAdd, Nat.reduceLeDiff, Nat.reduceLT, Nat.reduceBEq, Nat.reduceSub, EE.down]
          obtain ⟨t13, ht13, h⟩ := Option.bind_eq_some_iff.1 h
          refine callX_n [] (F8_ok ht13) ?_ ?_ ?_ ?_ ?_ ?_
          · first | rfl | simp [nrmA, nrmC, nrm, A1.ren, C.ren, rn, List.length_set]
          · simp [liveAll, A1.live, C.live]
          · rfl
          · decide
          · exact trivial
          simp only [VW.down, Nat.reduceEqDiff, reduceCtorEq, Nat.reduceAdd, Nat.reduceLeDiff, Nat.reduceLT, Nat.reduceBEq, Nat.reduceSub, EE.down]
          refine guardSB (fun g14 => ?_) (fun g14 => ?_)
          · have h := (if_pos g14).symm.trans h
            simp only [VW.down, Nat.reduceEqDiff, reduceCtorEq, Nat.reduceAdd, Nat.reduceLeDiff, Nat.reduceLT, Nat.reduceBEq, Nat.reduceSub, EE.down]
            obtain ⟨t15, ht15, h⟩ := Option.bind_eq_some_iff.1 h
            refine callX_n [] (F12_ok ht15) ?_ ?_ ?_ ?_ ?_ ?_
            · first | rfl | simp [nrmA, nrmC, nrm, A1.ren, C.ren, rn, List.length_set]
            · simp [liveAll, A1.live, C.live]
            · rfl
            · decide
            · exact trivial
            simp only [VW.down, Nat.reduceEqDiff, reduceCtorEq, Nat.reduceAdd, Nat.reduceLeDiff, Nat.reduceLT, Nat.reduceBEq, Nat.reduceSub, EE.down]
            obtain ⟨t16, ht16, h⟩ := Option.bind_eq_some_iff.1 h
            refine callX_bor (F19_ok ht16) (by simp only [borAs, bors, hp, List.getElem?_cons_zero, List.getElem?_cons_succ, Option.join_some, List.drop_zero, bor_full', true_and, Nat.zero_add, List.length_map, Nat.le_refl, nrm, List.length_cons, List.length_nil, Nat.reduceAdd, Nat.reduceLeDiff, List.take_succ_cons, List.take_zero, List.take_nil, List.map_cons, List.map_nil, List.length_set, EE.down]) rfl ?_
            simp only [VW.down, Nat.reduceEqDiff, reduceCtorEq, Nat.reduceAdd, Nat.reduceLeDiff, Nat.reduceLT, Nat.reduceBEq, Nat.reduceSub, EE.down]
            refine guardSB (fun g17 => ?_) (fun g17 => ?_)
            · have h := (if_pos g17).symm.trans h
              simp only [VW.down, Nat.reduceEqDiff, reduceCtorEq, Nat.reduceAdd, Nat.reduceLeDiff, Nat.reduceLT, Nat.reduceBEq, Nat.reduceSub, EE.down]
              obtain ⟨t18, ht18, h⟩ := Option.bind_eq_some_iff.1 h
              refine callX_n [] (F14_ok ht18) ?_ ?_ ?_ ?_ ?_ ?_
              · first | rfl | simp [nrmA, nrmC, nrm, A1.ren, C.ren, rn, List.length_set]
              · simp [liveAll, A1.live, C.live]
              · rfl
              · decide
              · exact trivial
              simp only [VW.down, Nat.reduceEqDiff, reduceCtorEq, Nat.reduceAdd, Nat.reduceLeDiff, Nat.reduceLT, Nat.reduceBEq, Nat.reduceSub, EE.down]
              obtain ⟨t19, ht19, h⟩ := Option.bind_eq_some_iff.1 h
              refine callX_bor (F19_ok ht19) (by simp only [borAs, bors, hp, List.getElem?_cons_zero, List.getElem?_cons_succ, Option.join_some, List.drop_zero, bor_full', true_and, Nat.zero_add, List.length_map, Nat.le_refl, nrm, List.length_cons, List.length_nil, Nat.reduceAdd, Nat.reduceLeDiff, List.take_succ_cons, List.take_zero, List.take_nil, List.map_cons, List.map_nil, List.length_set, EE.down]) rfl ?_
              simp only [VW.down, Nat.reduceEqDiff, reduceCtorEq, Nat.reduceAdd, Nat.reduceLeDiff, Nat.reduceLT, Nat.reduceBEq, Nat.reduceSub, EE.down]
              refine guardSB (fun g20 => ?_) (fun g20 => ?_)
              · have h := (if_pos g20).symm.trans h
                simp only [VW.down, Nat.reduceEqDiff, reduceCtorEq, Nat.reduceAdd, Nat.reduceLeDiff, Nat.reduceLT, Nat.reduceBEq, Nat.reduceSub, EE.down]
                obtain ⟨t21, ht21, h⟩ := Option.bind_eq_some_iff.1 h
                refine callX_n [] (F10_ok ht21) ?_ ?_ ?_ ?_ ?_ ?_
                · first | rfl | simp [nrmA, nrmC, nrm, A1.ren, C.ren, rn, List.length_set]
                · simp [liveAll, A1.live, C.live]
                · rfl
                · decide
                · exact trivial
                simp only [VW.down, Nat.reduceEqDiff, reduceCtorEq, Nat.reduceAdd, Nat.reduceLeDiff, Nat.reduceLT, Nat.reduceBEq, Nat.reduceSub, EE.down]
                obtain ⟨t22, ht22, h⟩ := Option.bind_eq_some_iff.1 h
                refine callX_bor (F19_ok ht22) (by simp only [borAs, bors, hp, List.getElem?_cons_zero, List.getElem?_cons_succ, Option.join_some, List.drop_zero, bor_full', true_and, Nat.zero_add, List.length_map, Nat.le_refl, nrm, List.length_cons, List.length_nil, Nat.reduceAdd, Nat.reduceLeDiff, List.take_succ_cons, List.take_zero, List.take_nil, List.map_cons, List.map_nil, List.length_set, EE.down]) rfl ?_
                simp only [VW.down, Nat.reduceEqDiff, reduceCtorEq, Nat.reduceAdd, Nat.reduceLeDiff, Nat.reduceLT, Nat.reduceBEq, Nat.reduceSub, EE.down]
                obtain rfl := Option.some.inj h
                exact eM [] rfl
              · have h := (if_neg g20).symm.trans h
                simp only [VW.down, Nat.reduceEqDiff, reduceCtorEq, Nat.reduceAdd, Nat.reduceLeDiff, Nat.reduceLT, Nat.reduceBEq, Nat.reduceSub, EE.down]
                obtain rfl := Option.some.inj h
                exact eM [] rfl
            · have h := (if_neg g17).symm.trans h
              simp only [VW.down, Nat.reduceEqDiff, reduceCtorEq, Nat.reduceAdd, Nat.reduceLeDiff, Nat.reduceLT, Nat.reduceBEq, Nat.reduceSub, EE.down]
              obtain rfl := Option.some.inj h
              exact eM [] rfl
          · have h := (if_neg g14).symm.trans h
            simp only [VW.down, Nat.reduceEqDiff, reduceCtorEq, Nat.reduceAdd, Nat.reduceLeDiff, Nat.reduceLT, Nat.reduceBEq, Nat.reduceSub, EE.down]
            obtain rfl := Option.some.inj h
            exact eM [] rfl
        · rintro _ rfl
          clear ho
          simp only [VW.down, Nat.reduceEqDiff, reduceCtorEq, Nat.reduceAdd, Nat.reduceLeDiff, Nat.reduceLT, Nat.reduceBEq, Nat.reduceSub, EE.down]
          obtain rfl := Option.some.inj h
          exact eF []

end Go.Proofs.Ytkgjaknjpdkaeaa
