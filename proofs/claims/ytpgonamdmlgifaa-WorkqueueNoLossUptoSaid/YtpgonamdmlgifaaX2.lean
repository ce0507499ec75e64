/- Each Go function as a function over typed data, and its walk. -/
import Derived.Test.YtpgonamdmlgifaaX
namespace Go.Proofs.Ytpgonamdmlgifaa
open Go Go.Fw
set_option maxRecDepth 100000
set_option maxHeartbeats 4000000
set_option linter.unusedSimpArgs false
set_option linter.unusedVariables false
/- orchestrator/orchestratorlaw31.awake -/
def F8  : Option (Bool) := (((F9).bind fun t2 => (F15 ((⟨[], [], [], [], []⟩ : WorkQueue)) ((⟨#[97]⟩ : ByteArray))).bind fun t3 => (F15 ((⟨t3.1, t3.2.1, t3.2.2.1, t3.2.2.2.1, t3.2.2.2.2⟩ : WorkQueue)) ((⟨#[98]⟩ : ByteArray))).bind fun t4 => (F15 ((⟨t4.1, t4.2.1, t4.2.2.1, t4.2.2.2.1, t4.2.2.2.2⟩ : WorkQueue)) ((⟨#[97]⟩ : ByteArray))).bind fun t5 => some ((t5.1, t5.2.1, t5.2.2.1, t5.2.2.2.1, t5.2.2.2.2))).bind fun o1 => (F17 ((⟨o1.1, o1.2.1, o1.2.2.1, o1.2.2.2.1, o1.2.2.2.2⟩ : WorkQueue))).bind fun t6 => (((F15 ((⟨t6.1, t6.2.1, t6.2.2.1, t6.2.2.2.1, t6.2.2.2.2.1⟩ : WorkQueue)) ((⟨#[97]⟩ : ByteArray))).bind fun t8 => (F16 ((⟨t8.1, t8.2.1, t8.2.2.1, t8.2.2.2.1, t8.2.2.2.2⟩ : WorkQueue)) ((⟨#[97]⟩ : ByteArray))).bind fun t9 => some ((t9.1, t9.2.1, t9.2.2.1, t9.2.2.2.1, t9.2.2.2.2))).bind fun o7 => (((F17 ((⟨o7.1, o7.2.1, o7.2.2.1, o7.2.2.2.1, o7.2.2.2.2⟩ : WorkQueue))).bind fun t11 => some ((t11.1, t11.2.1, t11.2.2.1, t11.2.2.2.1, t11.2.2.2.2.1, t11.2.2.2.2.2.1, t11.2.2.2.2.2.2))).bind fun o10 => (F17 ((⟨o10.1, o10.2.1, o10.2.2.1, o10.2.2.2.1, o10.2.2.2.2.1⟩ : WorkQueue))).bind fun t12 => (F17 ((⟨t12.1, t12.2.1, t12.2.2.1, t12.2.2.2.1, t12.2.2.2.2.1⟩ : WorkQueue))).bind fun t13 => (F9).bind fun t14 => (F19 ((⟨[], [], [], [], []⟩ : WorkQueue)) ((⟨#[97]⟩ : ByteArray)) 100 10 300).bind fun t15 => (F19 ((⟨t15.1, t15.2.1, t15.2.2.1, t15.2.2.2.1, t15.2.2.2.2⟩ : WorkQueue)) ((⟨#[97]⟩ : ByteArray)) 100 10 300).bind fun t16 => (((if ¬ ((t16.2.2.2.1.length : Int) = 1) then some true else some (decide (¬ ((t16.2.2.2.2.length : Int) = 1))))).bind fun o17 => (if o17 = true then some false else (((if t6.2.2.2.2.2.1 = (⟨#[97]⟩ : ByteArray) then (if t6.2.2.2.2.2.2 = true then (if o10.2.2.2.2.2.1 = (⟨#[98]⟩ : ByteArray) then (if o10.2.2.2.2.2.2 = true then (if t12.2.2.2.2.2.1 = (⟨#[97]⟩ : ByteArray) then (if t12.2.2.2.2.2.2 = true then (if (nb t13.2.2.2.2.2.2) = true then (rdI t16.2.2.2.1 0).bind fun y28 => (if y28.Key = (⟨#[97]⟩ : ByteArray) ∧ y28.At = 110 then (rdI t16.2.2.2.2 0).bind fun y30 => (if y30.Key = (⟨#[97]⟩ : ByteArray) ∧ y30.At = 2 then (F20 ((⟨t16.1, t16.2.1, t16.2.2.1, t16.2.2.2.1, t16.2.2.2.2⟩ : WorkQueue)) 110).bind fun t32 => some (decide ((t32.1.length : Int) = 1)) else some false) else some false) else some false) else some false) else some false) else some false) else some false) else some false) else some false)).bind fun o20 => some o20))))))
def a8 : AFn := ⟨102, [(.tmp 0)],
 (.seq (.reg [⟨(some 0), none, .mv (kB false), [], (.new [])⟩])
 (.seq (.sem (.reg [⟨(some 12), none, .call 9 [], [], (.new [])⟩,
   ⟨(some 13), none, .call 15 [(.t 12), (kS ⟨#[97]⟩)], [], (.new [])⟩,
   ⟨(some 14), none, .call 15 [(.t 13), (kS ⟨#[98]⟩)], [], (.new [])⟩,
   ⟨(some 15), none, .call 15 [(.t 14), (kS ⟨#[97]⟩)], [], (.new [])⟩,
   ⟨(some 1), none, .zbox [.d (.v (.slice none 0 0)), .d (.v (.slice none 0 0)), .d (.v (.slice none 0 0)), .d (.v (.slice none 0 0)), .d (.v (.slice none 0 0))], [], (.new [])⟩,
   ⟨none, none, .store 5 (.t 1) (.t 15), [], (.new [])⟩]))
 (.seq (.reg [⟨(some 17), none, .load (some 5) (.t 1), [], (.new [])⟩,
   ⟨(some 18), none, .call 17 [(.t 17)], [], (.new [])⟩,
   ⟨(some 16), none, .mv (.t 18), [], (.new [])⟩,
   ⟨(some 19), none, .ext (.t 16) 0, [], (.new [])⟩,
   ⟨(some 20), none, .ext (.t 16) 1, [], (.new [])⟩,
   ⟨(some 21), none, .ext (.t 16) 2, [], (.new [])⟩,
   ⟨none, none, .store 5 (.t 1) (.t 19), [], (.new [])⟩,
   ⟨(some 2), none, .mv (.t 20), [], (.new [])⟩,
   ⟨(some 3), none, .mv (.t 21), [], (.new [])⟩])
 (.seq (.sem (.reg [⟨(some 22), none, .load (some 5) (.t 1), [], (.new [])⟩,
   ⟨(some 23), none, .call 15 [(.t 22), (kS ⟨#[97]⟩)], [], (.new [])⟩,
   ⟨(some 24), none, .call 16 [(.t 23), (kS ⟨#[97]⟩)], [], (.new [])⟩,
   ⟨none, none, .store 5 (.t 1) (.t 24), [], (.new [])⟩]))
 (.seq (.sem (.reg [⟨(some 26), none, .load (some 5) (.t 1), [], (.new [])⟩,
   ⟨(some 27), none, .call 17 [(.t 26)], [], (.new [])⟩,
   ⟨(some 25), none, .mv (.t 27), [], (.new [])⟩,
   ⟨(some 28), none, .ext (.t 25) 0, [], (.new [])⟩,
   ⟨(some 29), none, .ext (.t 25) 1, [], (.new [])⟩,
   ⟨(some 30), none, .ext (.t 25) 2, [], (.new [])⟩,
   ⟨none, none, .store 5 (.t 1) (.t 28), [], (.new [])⟩,
   ⟨(some 4), none, .mv (.t 29), [], (.new [])⟩,
   ⟨(some 5), none, .mv (.t 30), [], (.new [])⟩]))
 (.seq (.reg [⟨(some 32), none, .load (some 5) (.t 1), [], (.new [])⟩,
   ⟨(some 33), none, .call 17 [(.t 32)], [], (.new [])⟩,
   ⟨(some 31), none, .mv (.t 33), [], (.new [])⟩,
   ⟨(some 34), none, .ext (.t 31) 0, [], (.new [])⟩,
   ⟨(some 35), none, .ext (.t 31) 1, [], (.new [])⟩,
   ⟨(some 36), none, .ext (.t 31) 2, [], (.new [])⟩,
   ⟨none, none, .store 5 (.t 1) (.t 34), [], (.new [])⟩,
   ⟨(some 6), none, .mv (.t 35), [], (.new [])⟩,
   ⟨(some 7), none, .mv (.t 36), [], (.new [])⟩])
 (.seq (.reg [⟨(some 38), none, .load (some 5) (.t 1), [], (.new [])⟩,
   ⟨(some 39), none, .call 17 [(.t 38)], [], (.new [])⟩,
   ⟨(some 37), none, .mv (.t 39), [], (.new [])⟩,
   ⟨(some 40), none, .ext (.t 37) 0, [], (.new [])⟩,
   ⟨(some 41), none, .ext (.t 37) 1, [], (.new [])⟩,
   ⟨(some 42), none, .ext (.t 37) 2, [], (.new [])⟩,
   ⟨(some 8), none, .zbox [.d (.v (.slice none 0 0)), .d (.v (.slice none 0 0)), .d (.v (.slice none 0 0)), .d (.v (.slice none 0 0)), .d (.v (.slice none 0 0))], [], (.new [])⟩,
   ⟨none, none, .store 5 (.t 8) (.t 40), [], (.new [])⟩,
   ⟨(some 9), none, .mv (.t 41), [], (.new [])⟩,
   ⟨(some 10), none, .mv (.t 42), [], (.new [])⟩])
 (.seq (.reg [⟨(some 43), none, .call 9 [], [], (.new [])⟩,
   ⟨(some 44), none, .call 19 [(.t 43), (kS ⟨#[97]⟩), (kI 100), (kI 10), (kI 300)], [], (.new [])⟩,
   ⟨(some 45), none, .call 19 [(.t 44), (kS ⟨#[97]⟩), (kI 100), (kI 10), (kI 300)], [], (.new [])⟩,
   ⟨(some 11), none, .zbox [.d (.v (.slice none 0 0)), .d (.v (.slice none 0 0)), .d (.v (.slice none 0 0)), .d (.v (.slice none 0 0)), .d (.v (.slice none 0 0))], [], (.new [])⟩,
   ⟨none, none, .store 5 (.t 11) (.t 45), [], (.new [])⟩])
 (.seq (.seq (.sem (.reg [⟨(some 46), none, .fieldA 3 (.t 11), [], (.new [])⟩,
   ⟨(some 47), none, .load none (.t 46), [], (.new [])⟩,
   ⟨(some 48), none, .len (.t 47), [], (.new [])⟩,
   ⟨(some 49), none, .bin .neq (.t 48) (kI 1), [], (.new [])⟩,
   ⟨(some 50), none, .mv (.t 49), [], (.new [])⟩,
   ⟨(some 51), (some (50, false)), .fieldA 4 (.t 11), [], (.new [])⟩,
   ⟨(some 52), (some (50, false)), .load none (.t 51), [], (.new [])⟩,
   ⟨(some 53), (some (50, false)), .len (.t 52), [], (.new [])⟩,
   ⟨(some 54), (some (50, false)), .bin .neq (.t 53) (kI 1), [], (.new [])⟩,
   ⟨(some 55), none, .pick (.t 50) (kB true) (.t 54), [], (.lone [11, 46, 47, 11, 51, 52])⟩]))
 (.cond (.t 55)
 (.seq (.reg [⟨(some 0), none, .mv (kB false), [], (.new [])⟩])
 .ret)
 .skip))
 (.seq (.sem (.reg [⟨(some 56), none, .mv (.t 2), [], (.new [])⟩,
   ⟨(some 57), none, .bin .eql (.t 56) (kS ⟨#[97]⟩), [], (.new [])⟩,
   ⟨(some 58), none, .mv (.t 57), [], (.new [])⟩,
   ⟨(some 59), (some (58, true)), .mv (.t 3), [], (.new [])⟩,
   ⟨(some 60), none, .pick (.t 58) (.t 59) (kB false), [], (.new [])⟩,
   ⟨(some 61), none, .mv (.t 60), [], (.new [])⟩,
   ⟨(some 62), (some (61, true)), .mv (.t 4), [], (.new [])⟩,
   ⟨(some 63), (some (61, true)), .bin .eql (.t 62) (kS ⟨#[98]⟩), [], (.new [])⟩,
   ⟨(some 64), none, .pick (.t 61) (.t 63) (kB false), [], (.new [])⟩,
   ⟨(some 65), none, .mv (.t 64), [], (.new [])⟩,
   ⟨(some 66), (some (65, true)), .mv (.t 5), [], (.new [])⟩,
   ⟨(some 67), none, .pick (.t 65) (.t 66) (kB false), [], (.new [])⟩,
   ⟨(some 68), none, .mv (.t 67), [], (.new [])⟩,
   ⟨(some 69), (some (68, true)), .mv (.t 6), [], (.new [])⟩,
   ⟨(some 70), (some (68, true)), .bin .eql (.t 69) (kS ⟨#[97]⟩), [], (.new [])⟩,
   ⟨(some 71), none, .pick (.t 68) (.t 70) (kB false), [], (.new [])⟩,
   ⟨(some 72), none, .mv (.t 71), [], (.new [])⟩,
   ⟨(some 73), (some (72, true)), .mv (.t 7), [], (.new [])⟩,
   ⟨(some 74), none, .pick (.t 72) (.t 73) (kB false), [], (.new [])⟩,
   ⟨(some 75), none, .mv (.t 74), [], (.new [])⟩,
   ⟨(some 76), (some (75, true)), .mv (.t 10), [], (.new [])⟩,
   ⟨(some 77), (some (75, true)), .not (.t 76), [], (.new [])⟩,
   ⟨(some 78), none, .pick (.t 75) (.t 77) (kB false), [], (.new [])⟩,
   ⟨(some 79), none, .mv (.t 78), [], (.new [])⟩,
   ⟨(some 80), (some (79, true)), .fieldA 3 (.t 11), [], (.new [])⟩,
   ⟨(some 81), (some (79, true)), .load none (.t 80), [], (.new [])⟩,
   ⟨(some 82), (some (79, true)), .indexA 2 (.t 81) (kI 0), [], (.new [])⟩,
   ⟨(some 83), (some (79, true)), .load (some 2) (.t 82), [], (.new [])⟩,
   ⟨(some 84), (some (79, true)), .build [.d (.v (.string ⟨#[]⟩)), .d (.v (.int .i64 0))] [(0, 1, (kS ⟨#[97]⟩)), (1, 1, (kI 110))], [], (.new [])⟩,
   ⟨(some 85), (some (79, true)), .eqs false [(0, 2), (1, 0)] (.t 83) (.t 84), [], (.new [])⟩,
   ⟨(some 86), none, .pick (.t 79) (.t 85) (kB false), [], (.new [])⟩,
   ⟨(some 87), none, .mv (.t 86), [], (.new [])⟩,
   ⟨(some 88), (some (87, true)), .fieldA 4 (.t 11), [], (.new [])⟩,
   ⟨(some 89), (some (87, true)), .load none (.t 88), [], (.new [])⟩,
   ⟨(some 90), (some (87, true)), .indexA 2 (.t 89) (kI 0), [], (.new [])⟩,
   ⟨(some 91), (some (87, true)), .load (some 2) (.t 90), [], (.new [])⟩,
   ⟨(some 92), (some (87, true)), .build [.d (.v (.string ⟨#[]⟩)), .d (.v (.int .i64 0))] [(0, 1, (kS ⟨#[97]⟩)), (1, 1, (kI 2))], [], (.new [])⟩,
   ⟨(some 93), (some (87, true)), .eqs false [(0, 2), (1, 0)] (.t 91) (.t 92), [], (.new [])⟩,
   ⟨(some 94), none, .pick (.t 87) (.t 93) (kB false), [], (.new [])⟩,
   ⟨(some 95), none, .mv (.t 94), [], (.new [])⟩,
   ⟨(some 96), (some (95, true)), .load (some 5) (.t 11), [], (.new [])⟩,
   ⟨(some 97), (some (95, true)), .call 20 [(.t 96), (kI 110)], [], (.new [])⟩,
   ⟨(some 98), (some (95, true)), .field 0 none (.t 97), [], (.new [])⟩,
   ⟨(some 99), (some (95, true)), .len (.t 98), [], (.new [])⟩,
   ⟨(some 100), (some (95, true)), .bin .eql (.t 99) (kI 1), [], (.new [])⟩,
   ⟨(some 101), none, .pick (.t 95) (.t 100) (kB false), [], (.new [])⟩,
   ⟨(some 0), none, .mv (.t 101), [], (.new [])⟩]))
 .ret))))))))))⟩
theorem a8_ok : afn Try.prog 8 = some a8.er := by kernel_rfl
theorem F8_ok {r : Bool} (h : F8 = some r) : CallD Try.prog 8 [] [] (tupV [.c (.d (.v (.bool r)))]) [] := by
  refine callS a8_ok (by simp [a8]) ?_
  rw [F8] at h
  simp only [a8, VW.down, Nat.reduceEqDiff, reduceCtorEq, Nat.reduceAdd, Nat.reduceLeDiff, Nat.reduceLT, Nat.reduceBEq, Nat.reduceSub, EE.down]
  obtain ⟨o1, ho, h⟩ := Option.bind_eq_some_iff.1 h
  refine cutS (fun s => s = ⟨[(1, .one (.c (.pt 0 0)))], [some (.box [.d (.sl (o1.1.map eS)), .d (.sl (o1.2.1.map eS)), .d (.sl (o1.2.2.1.map eS)), .d (.sl (o1.2.2.2.1.map eWorkItem)), .d (.sl (o1.2.2.2.2.map eWorkItem))])]⟩) ?_ ?_
  · have h := ho
    clear ho
    simp only [VW.down, Nat.reduceEqDiff, reduceCtorEq, Nat.reduceAdd, Nat.reduceLeDiff, Nat.reduceLT, Nat.reduceBEq, Nat.reduceSub, EE.down]
    obtain ⟨t2, ht2, h⟩ := Option.bind_eq_some_iff.1 h
    refine callX_n [] (F9_ok ht2) ?_ ?_ ?_ ?_ ?_ ?_
    · first | rfl | simp [nrmA, nrmC, nrm, A1.ren, C.ren, rn, List.length_set]
    · simp [liveAll, A1.live, C.live]
    · rfl
    · decide
    · exact trivial
    simp only [VW.down, Nat.reduceEqDiff, reduceCtorEq, Nat.reduceAdd, Nat.reduceLeDiff, Nat.reduceLT, Nat.reduceBEq, Nat.reduceSub, EE.down]
    obtain ⟨t3, ht3, h⟩ := Option.bind_eq_some_iff.1 h
    refine callX_n [] (F15_ok ht3) ?_ ?_ ?_ ?_ ?_ ?_
    · first | rfl | simp [nrmA, nrmC, nrm, A1.ren, C.ren, rn, List.length_set]
    · simp [liveAll, A1.live, C.live]
    · rfl
    · decide
    · exact trivial
    simp only [VW.down, Nat.reduceEqDiff, reduceCtorEq, Nat.reduceAdd, Nat.reduceLeDiff, Nat.reduceLT, Nat.reduceBEq, Nat.reduceSub, EE.down]
    obtain ⟨t4, ht4, h⟩ := Option.bind_eq_some_iff.1 h
    refine callX_borF (F15_ok ht4) (by simp only [borAs, bors, hp, List.getElem?_cons_zero, List.getElem?_cons_succ, Option.join_some, List.drop_zero, bor_full', true_and, Nat.zero_add, List.length_map, Nat.le_refl, nrm, List.length_cons, List.length_nil, Nat.reduceAdd, Nat.reduceLeDiff, List.take_succ_cons, List.take_zero, List.take_nil, List.map_cons, List.map_nil, List.length_set, EE.down]) rfl ⟨flat_rows (enc := eS) (fun _ => rfl) _, flat_rows (enc := eS) (fun _ => rfl) _, flat_rows (enc := eS) (fun _ => rfl) _, flat_rows (enc := eWorkItem) (fun _ => rfl) _, flat_rows (enc := eWorkItem) (fun _ => rfl) _, trivial⟩ ?_
    simp only [VW.down, Nat.reduceEqDiff, reduceCtorEq, Nat.reduceAdd, Nat.reduceLeDiff, Nat.reduceLT, Nat.reduceBEq, Nat.reduceSub, EE.down]
    obtain ⟨t5, ht5, h⟩ := Option.bind_eq_some_iff.1 h
    refine callX_borF (F15_ok ht5) (by simp only [borAs, bors, hp, List.getElem?_cons_zero, List.getElem?_cons_succ, Option.join_some, List.drop_zero, bor_full', true_and, Nat.zero_add, List.length_map, Nat.le_refl, nrm, List.length_cons, List.length_nil, Nat.reduceAdd, Nat.reduceLeDiff, List.take_succ_cons, List.take_zero, List.take_nil, List.map_cons, List.map_nil, List.length_set, EE.down]) rfl ⟨flat_rows (enc := eS) (fun _ => rfl) _, flat_rows (enc := eS) (fun _ => rfl) _, flat_rows (enc := eS) (fun _ => rfl) _, flat_rows (enc := eWorkItem) (fun _ => rfl) _, flat_rows (enc := eWorkItem) (fun _ => rfl) _, trivial⟩ ?_
    simp only [VW.down, Nat.reduceEqDiff, reduceCtorEq, Nat.reduceAdd, Nat.reduceLeDiff, Nat.reduceLT, Nat.reduceBEq, Nat.reduceSub, EE.down]
    obtain rfl := Option.some.inj h
    exact eM [some 15] rfl
  · rintro _ rfl
    clear ho
    simp only [VW.down, Nat.reduceEqDiff, reduceCtorEq, Nat.reduceAdd, Nat.reduceLeDiff, Nat.reduceLT, Nat.reduceBEq, Nat.reduceSub, EE.down]
    obtain ⟨t6, ht6, h⟩ := Option.bind_eq_some_iff.1 h
    refine callX_n [] (F17_ok ht6) ?_ ?_ ?_ ?_ ?_ ?_
    · first | rfl | simp [nrmA, nrmC, nrm, A1.ren, C.ren, rn, List.length_set]
    · simp [liveAll, A1.live, C.live]
    · rfl
    · decide
    · exact trivial
    simp only [VW.down, Nat.reduceEqDiff, reduceCtorEq, Nat.reduceAdd, Nat.reduceLeDiff, Nat.reduceLT, Nat.reduceBEq, Nat.reduceSub, EE.down]
    obtain ⟨o7, ho, h⟩ := Option.bind_eq_some_iff.1 h
    refine cutS (fun s => s = ⟨[(1, .one (.c (.pt 0 0))), (2, .one (.c (.d (.v (.string t6.2.2.2.2.2.1))))), (3, .one (.c (.d (.v (.bool t6.2.2.2.2.2.2)))))], [some (.box [.d (.sl (o7.1.map eS)), .d (.sl (o7.2.1.map eS)), .d (.sl (o7.2.2.1.map eS)), .d (.sl (o7.2.2.2.1.map eWorkItem)), .d (.sl (o7.2.2.2.2.map eWorkItem))])]⟩) ?_ ?_
    · have h := ho
      clear ho
      simp only [VW.down, Nat.reduceEqDiff, reduceCtorEq, Nat.reduceAdd, Nat.reduceLeDiff, Nat.reduceLT, Nat.reduceBEq, Nat.reduceSub, EE.down]
      obtain ⟨t8, ht8, h⟩ := Option.bind_eq_some_iff.1 h
      refine callX_borF (F15_ok ht8) (by simp only [borAs, bors, hp, List.getElem?_cons_zero, List.getElem?_cons_succ, Option.join_some, List.drop_zero, bor_full', true_and, Nat.zero_add, List.length_map, Nat.le_refl, nrm, List.length_cons, List.length_nil, Nat.reduceAdd, Nat.reduceLeDiff, List.take_succ_cons, List.take_zero, List.take_nil, List.map_cons, List.map_nil, List.length_set, EE.down]) rfl ⟨flat_rows (enc := eS) (fun _ => rfl) _, flat_rows (enc := eS) (fun _ => rfl) _, flat_rows (enc := eS) (fun _ => rfl) _, flat_rows (enc := eWorkItem) (fun _ => rfl) _, flat_rows (enc := eWorkItem) (fun _ => rfl) _, trivial⟩ ?_
      simp only [VW.down, Nat.reduceEqDiff, reduceCtorEq, Nat.reduceAdd, Nat.reduceLeDiff, Nat.reduceLT, Nat.reduceBEq, Nat.reduceSub, EE.down]
      obtain ⟨t9, ht9, h⟩ := Option.bind_eq_some_iff.1 h
      refine callX_borF (F16_ok ht9) (by simp only [borAs, bors, hp, List.getElem?_cons_zero, List.getElem?_cons_succ, Option.join_some, List.drop_zero, bor_full', true_and, Nat.zero_add, List.length_map, Nat.le_refl, nrm, List.length_cons, List.length_nil, Nat.reduceAdd, Nat.reduceLeDiff, List.take_succ_cons, List.take_zero, List.take_nil, List.map_cons, List.map_nil, List.length_set, EE.down]) rfl ⟨flat_rows (enc := eS) (fun _ => rfl) _, flat_rows (enc := eS) (fun _ => rfl) _, flat_rows (enc := eS) (fun _ => rfl) _, flat_rows (enc := eWorkItem) (fun _ => rfl) _, flat_rows (enc := eWorkItem) (fun _ => rfl) _, trivial⟩ ?_
      simp only [VW.down, Nat.reduceEqDiff, reduceCtorEq, Nat.reduceAdd, Nat.reduceLeDiff, Nat.reduceLT, Nat.reduceBEq, Nat.reduceSub, EE.down]
      obtain rfl := Option.some.inj h
      exact eM [some 0] rfl
    · rintro _ rfl
      clear ho
      simp only [VW.down, Nat.reduceEqDiff, reduceCtorEq, Nat.reduceAdd, Nat.reduceLeDiff, Nat.reduceLT, Nat.reduceBEq, Nat.reduceSub, EE.down]
      obtain ⟨o10, ho, h⟩ := Option.bind_eq_some_iff.1 h
      refine cutS (fun s => s = ⟨[(1, .one (.c (.pt 0 0))), (2, .one (.c (.d (.v (.string t6.2.2.2.2.2.1))))), (3, .one (.c (.d (.v (.bool t6.2.2.2.2.2.2))))), (4, .one (.c (.d (.v (.string o10.2.2.2.2.2.1))))), (5, .one (.c (.d (.v (.bool o10.2.2.2.2.2.2)))))], [some (.box [.d (.sl (o10.1.map eS)), .d (.sl (o10.2.1.map eS)), .d (.sl (o10.2.2.1.map eS)), .d (.sl (o10.2.2.2.1.map eWorkItem)), .d (.sl (o10.2.2.2.2.1.map eWorkItem))])]⟩) ?_ ?_
      · have h := ho
        clear ho
        simp only [VW.down, Nat.reduceEqDiff, reduceCtorEq, Nat.reduceAdd, Nat.reduceLeDiff, Nat.reduceLT, Nat.reduceBEq, Nat.reduceSub, EE.down]
        obtain ⟨t11, ht11, h⟩ := Option.bind_eq_some_iff.1 h
        refine callX_n [] (F17_ok ht11) ?_ ?_ ?_ ?_ ?_ ?_
        · first | rfl | simp [nrmA, nrmC, nrm, A1.ren, C.ren, rn, List.length_set]
        · simp [liveAll, A1.live, C.live]
        · rfl
        · decide
        · exact trivial
        simp only [VW.down, Nat.reduceEqDiff, reduceCtorEq, Nat.reduceAdd, Nat.reduceLeDiff, Nat.reduceLT, Nat.reduceBEq, Nat.reduceSub, EE.down]
        obtain rfl := Option.some.inj h
        exact eM [some 0] rfl
      · rintro _ rfl
        clear ho
        simp only [VW.down, Nat.reduceEqDiff, reduceCtorEq, Nat.reduceAdd, Nat.reduceLeDiff, Nat.reduceLT, Nat.reduceBEq, Nat.reduceSub, EE.down]
        obtain ⟨t12, ht12, h⟩ := Option.bind_eq_some_iff.1 h
        refine callX_n [] (F17_ok ht12) ?_ ?_ ?_ ?_ ?_ ?_
        · first | rfl | simp [nrmA, nrmC, nrm, A1.ren, C.ren, rn, List.length_set]
        · simp [liveAll, A1.live, C.live]
        · rfl
        · decide
        · exact trivial
        simp only [VW.down, Nat.reduceEqDiff, reduceCtorEq, Nat.reduceAdd, Nat.reduceLeDiff, Nat.reduceLT, Nat.reduceBEq, Nat.reduceSub, EE.down]
        obtain ⟨t13, ht13, h⟩ := Option.bind_eq_some_iff.1 h
        refine callX_gen (as1 := [.agg [.d (.sl (t12.1.map eS)), .d (.sl (t12.2.1.map eS)), .d (.sl (t12.2.2.1.map eS)), .d (.sl (t12.2.2.2.1.map eWorkItem)), .d (.sl (t12.2.2.2.2.1.map eWorkItem))]]) [(1, .arr 1 1 []), (2, .arr 1 1 []), (3, .arr 1 2 []), (4, .arr 1 2 []), (0, .box [.d (.sl (t12.1.map eS)), .own 1 0 0 0 (some 0), .own 2 0 0 0 (some 0), .own 3 0 0 0 (some 0), .own 4 0 0 0 (some 0)])] [some 0, none, none, none, none] [] (F17_ok ht13) ⟨?_, rfl, ?_⟩ ?_ ?_ ?_ ?_ ?_ ?_ ?_ ?_
        · simp only [ZZ.down, Nat.reduceEqDiff, reduceCtorEq, Nat.reduceAdd, Nat.reduceLeDiff, Nat.reduceLT, Nat.reduceBNe, EE.down]
        · simp only [ZZ.down, Nat.reduceEqDiff, reduceCtorEq, Nat.reduceAdd, Nat.reduceLeDiff, Nat.reduceLT, Nat.reduceBNe, EE.down]
        · simp only [ZZ.down, Nat.reduceEqDiff, reduceCtorEq, Nat.reduceAdd, Nat.reduceLeDiff, Nat.reduceLT, Nat.reduceBNe, EE.down]
        · rfl
        · rfl
        · simp [liveAll, A1.live, C.live]
        · rfl
        · decide
        · exact trivial
        simp only [VW.down, Nat.reduceEqDiff, reduceCtorEq, Nat.reduceAdd, Nat.reduceLeDiff, Nat.reduceLT, Nat.reduceBEq, Nat.reduceSub, EE.down]
        obtain ⟨t14, ht14, h⟩ := Option.bind_eq_some_iff.1 h
        refine callX_n [] (F9_ok ht14) ?_ ?_ ?_ ?_ ?_ ?_
        · first | rfl | simp [nrmA, nrmC, nrm, A1.ren, C.ren, rn, List.length_set]
        · simp [liveAll, A1.live, C.live]
        · rfl
        · decide
        · exact trivial
        simp only [VW.down, Nat.reduceEqDiff, reduceCtorEq, Nat.reduceAdd, Nat.reduceLeDiff, Nat.reduceLT, Nat.reduceBEq, Nat.reduceSub, EE.down]
        obtain ⟨t15, ht15, h⟩ := Option.bind_eq_some_iff.1 h
        refine callX_n [] (F19_ok ht15) ?_ ?_ ?_ ?_ ?_ ?_
        · first | rfl | simp [nrmA, nrmC, nrm, A1.ren, C.ren, rn, List.length_set]
        · simp [liveAll, A1.live, C.live]
        · rfl
        · decide
        · exact trivial
        simp only [VW.down, Nat.reduceEqDiff, reduceCtorEq, Nat.reduceAdd, Nat.reduceLeDiff, Nat.reduceLT, Nat.reduceBEq, Nat.reduceSub, EE.down]
        obtain ⟨t16, ht16, h⟩ := Option.bind_eq_some_iff.1 h
        refine callX_borF (F19_ok ht16) (by simp only [borAs, bors, hp, List.getElem?_cons_zero, List.getElem?_cons_succ, Option.join_some, List.drop_zero, bor_full', true_and, Nat.zero_add, List.length_map, Nat.le_refl, nrm, List.length_cons, List.length_nil, Nat.reduceAdd, Nat.reduceLeDiff, List.take_succ_cons, List.take_zero, List.take_nil, List.map_cons, List.map_nil, List.length_set, EE.down]) rfl ⟨flat_rows (enc := eS) (fun _ => rfl) _, flat_rows (enc := eS) (fun _ => rfl) _, flat_rows (enc := eS) (fun _ => rfl) _, flat_rows (enc := eWorkItem) (fun _ => rfl) _, flat_rows (enc := eWorkItem) (fun _ => rfl) _, trivial⟩ ?_
        simp only [VW.down, Nat.reduceEqDiff, reduceCtorEq, Nat.reduceAdd, Nat.reduceLeDiff, Nat.reduceLT, Nat.reduceBEq, Nat.reduceSub, EE.down]
        obtain ⟨o17, ho, h⟩ := Option.bind_eq_some_iff.1 h
        refine cutS (fun s => s = ⟨[(2, .one (.c (.d (.v (.string t6.2.2.2.2.2.1))))), (3, .one (.c (.d (.v (.bool t6.2.2.2.2.2.2))))), (4, .one (.c (.d (.v (.string o10.2.2.2.2.2.1))))), (5, .one (.c (.d (.v (.bool o10.2.2.2.2.2.2))))), (6, .one (.c (.d (.v (.string t12.2.2.2.2.2.1))))), (7, .one (.c (.d (.v (.bool t12.2.2.2.2.2.2))))), (10, .one (.c (.d (.v (.bool t13.2.2.2.2.2.2))))), (11, .one (.c (.pt 0 0))), (55, .one (.c (.d (.v (.bool o17)))))], [some (.box [.own 1 0 0 (t16.1.length) none, .own 2 0 0 (t16.2.1.length) none, .own 3 0 0 (t16.2.2.1.length) none, .own 4 0 0 (t16.2.2.2.1.length) none, .own 5 0 0 (t16.2.2.2.2.length) none]), some (.arr 0 1 (t16.1.map eS)), some (.arr 0 1 (t16.2.1.map eS)), some (.arr 0 1 (t16.2.2.1.map eS)), some (.arr 0 2 (t16.2.2.2.1.map eWorkItem)), some (.arr 0 2 (t16.2.2.2.2.map eWorkItem))]⟩) ?_ ?_
        · have h := ho
          clear ho
          simp only [VW.down, Nat.reduceEqDiff, reduceCtorEq, Nat.reduceAdd, Nat.reduceLeDiff, Nat.reduceLT, Nat.reduceBEq, Nat.reduceSub, EE.down]
          refine guardS (fun g18 => ?_) (fun g18 => ?_)
          · have h := (if_pos g18).symm.trans h
            simp only [VW.down, Nat.reduceEqDiff, reduceCtorEq, Nat.reduceAdd, Nat.reduceLeDiff, Nat.reduceLT, Nat.reduceBEq, Nat.reduceSub, EE.down]
            obtain rfl := Option.some.inj h
            exact eM [some 20, some 15, some 16, some 17, some 18, some 19] rfl
          · have h := (if_neg g18).symm.trans h
            simp only [VW.down, Nat.reduceEqDiff, reduceCtorEq, Nat.reduceAdd, Nat.reduceLeDiff, Nat.reduceLT, Nat.reduceBEq, Nat.reduceSub, EE.down]
            obtain rfl := Option.some.inj h
            exact eM [some 20, some 15, some 16, some 17, some 18, some 19] rfl
        · rintro _ rfl
          clear ho
          simp only [VW.down, Nat.reduceEqDiff, reduceCtorEq, Nat.reduceAdd, Nat.reduceLeDiff, Nat.reduceLT, Nat.reduceBEq, Nat.reduceSub, EE.down]
          refine condB (fun c19 => ?_) (fun c19 => ?_)
          · have h := (if_pos c19).symm.trans h
            simp only [VW.down, Nat.reduceEqDiff, reduceCtorEq, Nat.reduceAdd, Nat.reduceLeDiff, Nat.reduceLT, Nat.reduceBEq, Nat.reduceSub, EE.down]
            obtain rfl := Option.some.inj h
            exact eF []
          · have h := (if_neg c19).symm.trans h
            simp only [VW.down, Nat.reduceEqDiff, reduceCtorEq, Nat.reduceAdd, Nat.reduceLeDiff, Nat.reduceLT, Nat.reduceBEq, Nat.reduceSub, EE.down]
            obtain ⟨o20, ho, h⟩ := Option.bind_eq_some_iff.1 h
            refine cutS (fun s => s = ⟨[(0, .one (.c (.d (.v (.bool o20)))))], []⟩) ?_ ?_
            · have h := ho
              clear ho
              simp only [VW.down, Nat.reduceEqDiff, reduceCtorEq, Nat.reduceAdd, Nat.reduceLeDiff, Nat.reduceLT, Nat.reduceBEq, Nat.reduceSub, EE.down]
              refine guardS (fun g21 => ?_) (fun g21 => ?_)
              · have h := (if_pos g21).symm.trans h
                simp only [VW.down, Nat.reduceEqDiff, reduceCtorEq, Nat.reduceAdd, Nat.reduceLeDiff, Nat.reduceLT, Nat.reduceBEq, Nat.reduceSub, EE.down]
                refine guardSB (fun g22 => ?_) (fun g22 => ?_)
                · have h := (if_pos g22).symm.trans h
                  simp only [VW.down, Nat.reduceEqDiff, reduceCtorEq, Nat.reduceAdd, Nat.reduceLeDiff, Nat.reduceLT, Nat.reduceBEq, Nat.reduceSub, EE.down]
                  refine guardS (fun g23 => ?_) (fun g23 => ?_)
                  · have h := (if_pos g23).symm.trans h
                    simp only [VW.down, Nat.reduceEqDiff, reduceCtorEq, Nat.reduceAdd, Nat.reduceLeDiff, Nat.reduceLT, Nat.reduceBEq, Nat.reduceSub, EE.down]
                    refine guardSB (fun g24 => ?_) (fun g24 => ?_)
                    · have h := (if_pos g24).symm.trans h
                      simp only [VW.down, Nat.reduceEqDiff, reduceCtorEq, Nat.reduceAdd, Nat.reduceLeDiff, Nat.reduceLT, Nat.reduceBEq, Nat.reduceSub, EE.down]
                      refine guardS (fun g25 => ?_) (fun g25 => ?_)
                      · have h := (if_pos g25).symm.trans h
                        simp only [VW.down, Nat.reduceEqDiff, reduceCtorEq, Nat.reduceAdd, Nat.reduceLeDiff, Nat.reduceLT, Nat.reduceBEq, Nat.reduceSub, EE.down]
                        refine guardSB (fun g26 => ?_) (fun g26 => ?_)
                        · have h := (if_pos g26).symm.trans h
                          simp only [VW.down, Nat.reduceEqDiff, reduceCtorEq, Nat.reduceAdd, Nat.reduceLeDiff, Nat.reduceLT, Nat.reduceBEq, Nat.reduceSub, EE.down]
                          refine guardSB (fun g27 => ?_) (fun g27 => ?_)
                          · have h := (if_pos g27).symm.trans h
                            simp only [VW.down, Nat.reduceEqDiff, reduceCtorEq, Nat.reduceAdd, Nat.reduceLeDiff, Nat.reduceLT, Nat.reduceBEq, Nat.reduceSub, EE.down]
                            obtain ⟨y28, hy28, h⟩ := Option.bind_eq_some_iff.1 h
                            refine t_idxO (enc := eWorkItem) (xs := t16.2.2.2.1) rfl rfl rfl (by first | rfl | simp only [List.length_set] | exact (clrL_len (slI_len (by assumption))).symm) hy28 ?_
                            simp only [VW.down, Nat.reduceEqDiff, reduceCtorEq, Nat.reduceAdd, Nat.reduceLeDiff, Nat.reduceLT, Nat.reduceBEq, Nat.reduceSub, EE.down]
                            refine LdRow.rd (rdI_some hy28).2.1 ?_
                            simp only [VW.down, Nat.reduceEqDiff, reduceCtorEq, Nat.reduceAdd, Nat.reduceLeDiff, Nat.reduceLT, Nat.reduceBEq, Nat.reduceSub, EE.down]
                            refine guardS (fun g29 => ?_) (fun g29 => ?_)
                            · have h := (if_pos g29).symm.trans h
                              simp only [VW.down, Nat.reduceEqDiff, reduceCtorEq, Nat.reduceAdd, Nat.reduceLeDiff, Nat.reduceLT, Nat.reduceBEq, Nat.reduceSub, EE.down]
                              obtain ⟨y30, hy30, h⟩ := Option.bind_eq_some_iff.1 h
                              refine t_idxO (enc := eWorkItem) (xs := t16.2.2.2.2) rfl rfl rfl (by first | rfl | simp only [List.length_set] | exact (clrL_len (slI_len (by assumption))).symm) hy30 ?_
                              simp only [VW.down, Nat.reduceEqDiff, reduceCtorEq, Nat.reduceAdd, Nat.reduceLeDiff, Nat.reduceLT, Nat.reduceBEq, Nat.reduceSub, EE.down]
                              refine LdRow.rd (rdI_some hy30).2.1 ?_
                              simp only [VW.down, Nat.reduceEqDiff, reduceCtorEq, Nat.reduceAdd, Nat.reduceLeDiff, Nat.reduceLT, Nat.reduceBEq, Nat.reduceSub, EE.down]
                              refine guardS (fun g31 => ?_) (fun g31 => ?_)
                              · have h := (if_pos g31).symm.trans h
                                simp only [VW.down, Nat.reduceEqDiff, reduceCtorEq, Nat.reduceAdd, Nat.reduceLeDiff, Nat.reduceLT, Nat.reduceBEq, Nat.reduceSub, EE.down]
                                obtain ⟨t32, ht32, h⟩ := Option.bind_eq_some_iff.1 h
                                refine callX_borF (F20_ok ht32) (by simp only [borAs, bors, hp, List.getElem?_cons_zero, List.getElem?_cons_succ, Option.join_some, List.drop_zero, bor_full', true_and, Nat.zero_add, List.length_map, Nat.le_refl, nrm, List.length_cons, List.length_nil, Nat.reduceAdd, Nat.reduceLeDiff, List.take_succ_cons, List.take_zero, List.take_nil, List.map_cons, List.map_nil, List.length_set, EE.down]) rfl ⟨flat_rows (enc := eS) (fun _ => rfl) _, flat_rows (enc := eS) (fun _ => rfl) _, flat_rows (enc := eS) (fun _ => rfl) _, flat_rows (enc := eWorkItem) (fun _ => rfl) _, flat_rows (enc := eWorkItem) (fun _ => rfl) _, trivial⟩ ?_
                                simp only [VW.down, Nat.reduceEqDiff, reduceCtorEq, Nat.reduceAdd, Nat.reduceLeDiff, Nat.reduceLT, Nat.reduceBEq, Nat.reduceSub, EE.down]
                                obtain rfl := Option.some.inj h
                                exact eM [] rfl
                              · have h := (if_neg g31).symm.trans h
                                simp only [VW.down, Nat.reduceEqDiff, reduceCtorEq, Nat.reduceAdd, Nat.reduceLeDiff, Nat.reduceLT, Nat.reduceBEq, Nat.reduceSub, EE.down]
                                obtain rfl := Option.some.inj h
                                exact eM [] rfl
                            · have h := (if_neg g29).symm.trans h
                              simp only [VW.down, Nat.reduceEqDiff, reduceCtorEq, Nat.reduceAdd, Nat.reduceLeDiff, Nat.reduceLT, Nat.reduceBEq, Nat.reduceSub, EE.down]
                              obtain rfl := Option.some.inj h
                              exact eM [] rfl
                          · have h := (if_neg g27).symm.trans h
                            simp only [VW.down, Nat.reduceEqDiff, reduceCtorEq, Nat.reduceAdd, Nat.reduceLeDiff, Nat.reduceLT, Nat.reduceBEq, Nat.reduceSub, EE.down]
                            obtain rfl := Option.some.inj h
                            exact eM [] rfl
                        · have h := (if_neg g26).symm.trans h
                          simp only [VW.down, Nat.reduceEqDiff, reduceCtorEq, Nat.reduceAdd, Nat.reduceLeDiff, Nat.reduceLT, Nat.reduceBEq, Nat.reduceSub, EE.down]
                          obtain rfl := Option.some.inj h
                          exact eM [] rfl
                      · have h := (if_neg g25).symm.trans h
                        simp only [VW.down, Nat.reduceEqDiff, reduceCtorEq, Nat.reduceAdd, Nat.reduceLeDiff, Nat.reduceLT, Nat.reduceBEq, Nat.reduceSub, EE.down]
                        obtain rfl := Option.some.inj h
                        exact eM [] rfl
                    · have h := (if_neg g24).symm.trans h
                      simp only [VW.down, Nat.reduceEqDiff, reduceCtorEq, Nat.reduceAdd, Nat.reduceLeDiff, Nat.reduceLT, Nat.reduceBEq, Nat.reduceSub, EE.down]
                      obtain rfl := Option.some.inj h
                      exact eM [] rfl
                  · have h := (if_neg g23).symm.trans h
                    simp only [VW.down, Nat.reduceEqDiff, reduceCtorEq, Nat.reduceAdd, Nat.reduceLeDiff, Nat.reduceLT, Nat.reduceBEq, Nat.reduceSub, EE.down]
                    obtain rfl := Option.some.inj h
                    exact eM [] rfl
                · have h := (if_neg g22).symm.trans h
                  simp only [VW.down, Nat.reduceEqDiff, reduceCtorEq, Nat.reduceAdd, Nat.reduceLeDiff, Nat.reduceLT, Nat.reduceBEq, Nat.reduceSub, EE.down]
                  obtain rfl := Option.some.inj h
                  exact eM [] rfl
              · have h := (if_neg g21).symm.trans h
                simp only [VW.down, Nat.reduceEqDiff, reduceCtorEq, Nat.reduceAdd, Nat.reduceLeDiff, Nat.reduceLT, Nat.reduceBEq, Nat.reduceSub, EE.down]
                obtain rfl := Option.some.inj h
                exact eM [] rfl
            · rintro _ rfl
              clear ho
              simp only [VW.down, Nat.reduceEqDiff, reduceCtorEq, Nat.reduceAdd, Nat.reduceLeDiff, Nat.reduceLT, Nat.reduceBEq, Nat.reduceSub, EE.down]
              obtain rfl := Option.some.inj h
              exact eF []

/- orchestrator/orchestratorref31.New -/
def F10  : Option (Unit) := some (())
def a10 : AFn := ⟨2, [(.cell 0 (some 5))],
 (.seq (.reg [⟨(some 0), none, .zbox [.d (.v (.slice none 0 0)), .d (.v (.slice none 0 0)), .d (.v (.slice none 0 0)), .d (.v (.slice none 0 0)), .d (.v (.slice none 0 0))], [], (.lone [])⟩])
 (.seq (.reg [⟨(some 1), none, .build [.d (.v (.slice none 0 0)), .d (.v (.slice none 0 0)), .d (.v (.slice none 0 0)), .d (.v (.slice none 0 0)), .d (.v (.slice none 0 0))] [], [], (.new [])⟩,
   ⟨none, none, .store 5 (.t 0) (.t 1), [], (.new [])⟩])
 .ret))⟩
theorem a10_ok : afn Try.prog 10 = some a10.er := by kernel_rfl
theorem F10_ok {r : Unit} (h : F10 = some r) : CallD Try.prog 10 [] [] (tupV [.agg [.d (.sl (([] : List ByteArray).map eS)), .d (.sl (([] : List ByteArray).map eS)), .d (.sl (([] : List ByteArray).map eS)), .d (.sl (([] : List WorkItem).map eWorkItem)), .d (.sl (([] : List WorkItem).map eWorkItem))]]) [] := by
  refine callS a10_ok (by simp [a10]) ?_
  rw [F10] at h
  simp only [a10, VW.down, Nat.reduceEqDiff, reduceCtorEq, Nat.reduceAdd, Nat.reduceLeDiff, Nat.reduceLT, Nat.reduceBEq, Nat.reduceSub, EE.down]
  obtain rfl := Option.some.inj h
  exact eF []

/- (*orchestrator/workqueue.sorted[orchestrator/api.WorkItem]).remove -/
def F50 (x1 : WorkItem) (b0_0 : (List WorkItem)) : Option ((List WorkItem)) := (F41v1 x1 b0_0).bind fun t1 => (if (nb t1.2) = true then some b0_0 else (delI b0_0 t1.1 ((IntKind.i64.wrap (t1.1 + 1)))).bind fun t3 => some t3)
def a50 : AFn := ⟨27, [(.tmp 4)],
 (.seq (.reg [⟨(some 3), none, .box (.t 1), [], (.new [])⟩,
   ⟨(some 4), none, .mv kN, [], (.new [])⟩])
 (.seq (.reg [⟨(some 8), none, .mv (.t 0), [], (.new [])⟩,
   ⟨(some 9), none, .load (some 2) (.t 3), [], (.new [])⟩,
   ⟨(some 10), none, .call 41 [(.t 8), (.t 9)], [], (.new [])⟩,
   ⟨(some 7), none, .mv (.t 10), [], (.new [])⟩,
   ⟨(some 11), none, .ext (.t 7) 0, [], (.new [])⟩,
   ⟨(some 12), none, .ext (.t 7) 1, [], (.new [])⟩,
   ⟨(some 5), none, .mv (.t 11), [], (.new [])⟩,
   ⟨(some 6), none, .mv (.t 12), [], (.new [])⟩])
 (.seq (.seq (.reg [⟨(some 13), none, .mv (.t 6), [], (.new [])⟩,
   ⟨(some 14), none, .not (.t 13), [], (.new [])⟩])
 (.cond (.t 14)
 (.seq (.reg [⟨(some 15), none, .mv (.t 0), [], (.new [])⟩,
   ⟨(some 16), none, .fieldA 0 (.t 15), [], (.new [])⟩,
   ⟨(some 17), none, .fieldA 0 (.t 16), [], (.new [])⟩,
   ⟨(some 18), none, .load none (.t 17), [], (.new [])⟩,
   ⟨(some 4), none, .mv (.t 18), [], (.new [])⟩])
 .ret)
 .skip))
 (.seq (.reg [⟨(some 19), none, .mv (.t 0), [], (.new [])⟩,
   ⟨(some 20), none, .fieldA 0 (.t 19), [], (.new [])⟩,
   ⟨(some 21), none, .fieldA 0 (.t 20), [], (.new [])⟩,
   ⟨(some 22), none, .load none (.t 21), [], (.new [])⟩,
   ⟨(some 23), none, .mv (.t 5), [], (.new [])⟩,
   ⟨(some 24), none, .mv (.t 5), [], (.new [])⟩,
   ⟨(some 25), none, .bin .add (.t 24) (kI 1), [], (.new [])⟩,
   ⟨(some 26), none, .call 48 [(.t 22), (.t 23), (.t 25)], [], (.new [])⟩,
   ⟨(some 4), none, .mv (.t 26), [], (.new [])⟩])
 .ret))))⟩
theorem a50_ok : afn Try.prog 50 = some a50.er := by kernel_rfl
theorem F50_ok {x1 : WorkItem} {b0_0 : (List WorkItem)} {r : (List WorkItem)} {e1 : Nat} (h : F50 x1 b0_0 = some r) : CallD Try.prog 50 [.c (.pt 0 0), .agg [.d (.v (.string x1.Key)), .d (.v (.int .i64 x1.At))]] [some (.box [.own 1 e1 0 (b0_0.length) none, .fn 40 []]), some (.arr e1 2 (b0_0.map eWorkItem))] (tupV [.c (.own 1 (e1 + 2) 0 (r.length) none)]) [some (.box [.own 1 e1 0 0 (some 0), .fn 40 []]), some (.arr (e1 + 2) 2 (r.map eWorkItem))] := by
  refine callS a50_ok (by simp [a50]) ?_
  rw [F50] at h
  simp only [a50, VW.down, Nat.reduceEqDiff, reduceCtorEq, Nat.reduceAdd, Nat.reduceLeDiff, Nat.reduceLT, Nat.reduceBEq, Nat.reduceSub, EE.down]
  obtain ⟨t1, ht1, h⟩ := Option.bind_eq_some_iff.1 h
  refine callX_n [0, 1] (F41v1_ok (e1 := e1) ht1) ?_ ?_ ?_ ?_ ?_ ?_
  · first | rfl | simp [nrmA, nrmC, nrm, A1.ren, C.ren, rn, List.length_set]
  · simp [liveAll, A1.live, C.live, hp]
  · rfl
  · decide
  · exact ⟨⟨rfl, by simp [Blk.live, C.live, hp]⟩, ⟨⟨rfl, trivial⟩, trivial⟩⟩
  simp only [VW.down, Nat.reduceEqDiff, reduceCtorEq, Nat.reduceAdd, Nat.reduceLeDiff, Nat.reduceLT, Nat.reduceBEq, Nat.reduceSub, EE.down]
  refine condB (fun c2 => ?_) (fun c2 => ?_)
  · have h := (if_pos c2).symm.trans h
    simp only [VW.down, Nat.reduceEqDiff, reduceCtorEq, Nat.reduceAdd, Nat.reduceLeDiff, Nat.reduceLT, Nat.reduceBEq, Nat.reduceSub, EE.down]
    obtain rfl := Option.some.inj h
    exact eF [some 0, some 1]
  · have h := (if_neg c2).symm.trans h
    simp only [VW.down, Nat.reduceEqDiff, reduceCtorEq, Nat.reduceAdd, Nat.reduceLeDiff, Nat.reduceLT, Nat.reduceBEq, Nat.reduceSub, EE.down]
    obtain ⟨t3, ht3, h⟩ := Option.bind_eq_some_iff.1 h
    refine callX_n [1] (F48_ok (e0 := e1) ht3) ?_ ?_ ?_ ?_ ?_ ?_
    · first | rfl | simp [nrmA, nrmC, nrm, A1.ren, C.ren, rn, List.length_set]
    · simp [liveAll, A1.live, C.live, hp]
    · rfl
    · decide
    · exact ⟨⟨rfl, trivial⟩, trivial⟩
    simp only [VW.down, Nat.reduceEqDiff, reduceCtorEq, Nat.reduceAdd, Nat.reduceLeDiff, Nat.reduceLT, Nat.reduceBEq, Nat.reduceSub, EE.down]
    obtain rfl := Option.some.inj h
    exact eF [some 0, some 1]

/- orchestrator/workqueue.Forget -/
def F22 (x0 : WorkQueue) (x1 : ByteArray) : Option ((List ByteArray) × (List ByteArray) × (List ByteArray) × (List WorkItem) × (List WorkItem)) := (F32 x0).bind fun t1 => (F39v1 t1.2.2.2.2).bind fun t2 => (F50 ((⟨x1, 0⟩ : WorkItem)) t2).bind fun t3 => some ((t1.1, t1.2.1, t1.2.2.1, t1.2.2.2.1, t3))
def a22 : AFn := ⟨15, [(.cell 4 (some 5))],
 (.seq (.reg [⟨(some 2), none, .box (.t 0), [], (.new [])⟩,
   ⟨(some 4), none, .zbox [.d (.v (.slice none 0 0)), .d (.v (.slice none 0 0)), .d (.v (.slice none 0 0)), .d (.v (.slice none 0 0)), .d (.v (.slice none 0 0))], [], (.new [])⟩])
 (.seq (.reg [⟨(some 5), none, .load (some 5) (.t 2), [], (.new [])⟩,
   ⟨(some 6), none, .call 32 [(.t 5)], [], (.new [])⟩,
   ⟨none, none, .store 5 (.t 2) (.t 6), [], (.new [])⟩])
 (.seq (.reg [⟨(some 7), none, .fieldA 4 (.t 2), [], (.new [])⟩,
   ⟨(some 8), none, .load none (.t 7), [], (.new [])⟩,
   ⟨(some 9), none, .call 39 [(.t 8), (.f 40)], [], (.new [])⟩,
   ⟨(some 10), none, .mv (.t 1), [], (.new [])⟩,
   ⟨(some 11), none, .build [.d (.v (.string ⟨#[]⟩)), .d (.v (.int .i64 0))] [(0, 1, (.t 10))], [], (.new [])⟩,
   ⟨(some 12), none, .call 50 [(.t 9), (.t 11)], [], (.new [])⟩,
   ⟨(some 13), none, .fieldA 4 (.t 2), [], (.new [])⟩,
   ⟨none, none, .store 1 (.t 13) (.t 12), [], (.new [])⟩])
 (.seq (.reg [⟨(some 14), none, .load (some 5) (.t 2), [], (.new [])⟩,
   ⟨none, none, .store 5 (.t 4) (.t 14), [], (.lone [2])⟩])
 .ret))))⟩
theorem a22_ok : afn Try.prog 22 = some a22.er := by kernel_rfl
theorem F22_ok {x0 : WorkQueue} {x1 : ByteArray} {r : (List ByteArray) × (List ByteArray) × (List ByteArray) × (List WorkItem) × (List WorkItem)} (h : F22 x0 x1 = some r) : CallD Try.prog 22 [.agg [.d (.sl (x0.Ready.map eS)), .d (.sl (x0.Working.map eS)), .d (.sl (x0.Dirty.map eS)), .d (.sl (x0.Later.map eWorkItem)), .d (.sl (x0.Retries.map eWorkItem))], .c (.d (.v (.string x1)))] [] (tupV [.agg [.own 0 0 0 (r.1.length) none, .own 1 0 0 (r.2.1.length) none, .own 2 0 0 (r.2.2.1.length) none, .own 3 0 0 (r.2.2.2.1.length) none, .own 4 0 0 (r.2.2.2.2.length) none]]) [some (.arr 0 1 (r.1.map eS)), some (.arr 0 1 (r.2.1.map eS)), some (.arr 0 1 (r.2.2.1.map eS)), some (.arr 0 2 (r.2.2.2.1.map eWorkItem)), some (.arr 0 2 (r.2.2.2.2.map eWorkItem))] := by
  refine callS a22_ok (by simp [a22]) ?_
  rw [F22] at h
  simp only [a22, VW.down, Nat.reduceEqDiff, reduceCtorEq, Nat.reduceAdd, Nat.reduceLeDiff, Nat.reduceLT, Nat.reduceBEq, Nat.reduceSub, EE.down]
  obtain ⟨t1, ht1, h⟩ := Option.bind_eq_some_iff.1 h
  refine callX_n [] (F32_ok ht1) ?_ ?_ ?_ ?_ ?_ ?_
  · first | rfl | simp [nrmA, nrmC, nrm, A1.ren, C.ren, rn, List.length_set]
  · simp [liveAll, A1.live, C.live]
  · rfl
  · decide
  · exact trivial
  simp only [VW.down, Nat.reduceEqDiff, reduceCtorEq, Nat.reduceAdd, Nat.reduceLeDiff, Nat.reduceLT, Nat.reduceBEq, Nat.reduceSub, EE.down]
  obtain ⟨t2, ht2, h⟩ := Option.bind_eq_some_iff.1 h
  refine callX_borF (F39v1_ok ht2) (by simp only [borAs, bors, hp, List.getElem?_cons_zero, List.getElem?_cons_succ, Option.join_some, List.drop_zero, bor_full', true_and, Nat.zero_add, List.length_map, Nat.le_refl, nrm, List.length_cons, List.length_nil, Nat.reduceAdd, Nat.reduceLeDiff, List.take_succ_cons, List.take_zero, List.take_nil, List.map_cons, List.map_nil, List.length_set, EE.down]) rfl ⟨rfl, flat_rows (enc := eWorkItem) (fun _ => rfl) _, trivial⟩ ?_
  simp only [VW.down, Nat.reduceEqDiff, reduceCtorEq, Nat.reduceAdd, Nat.reduceLeDiff, Nat.reduceLT, Nat.reduceBEq, Nat.reduceSub, EE.down]
  obtain ⟨t3, ht3, h⟩ := Option.bind_eq_some_iff.1 h
  refine callX_n [7, 8] (F50_ok (e1 := 0) ht3) ?_ ?_ ?_ ?_ ?_ ?_
  · first | rfl | simp [nrmA, nrmC, nrm, A1.ren, C.ren, rn, List.length_set]
  · simp [liveAll, A1.live, C.live, hp]
  · rfl
  · decide
  · exact ⟨⟨rfl, by simp [Blk.live, C.live, hp]⟩, ⟨⟨rfl, trivial⟩, trivial⟩⟩
  simp only [VW.down, Nat.reduceEqDiff, reduceCtorEq, Nat.reduceAdd, Nat.reduceLeDiff, Nat.reduceLT, Nat.reduceBEq, Nat.reduceSub, EE.down]
  obtain rfl := Option.some.inj h
  exact eF [some 2, some 3, some 4, some 5, some 8]

/- orchestrator/orchestratorlaw31.play -/
def F11 (x0 : WorkQueue) (x1 : Op) : Option ((List ByteArray) × (List ByteArray) × (List ByteArray) × (List WorkItem) × (List WorkItem) × ByteArray × Bool) := (if (x1.Kind.tmod 7) = 0 then (F15 x0 x1.Key).bind fun t2 => some ((t2.1, t2.2.1, t2.2.2.1, t2.2.2.2.1, t2.2.2.2.2, (⟨#[]⟩ : ByteArray), false)) else (if (x1.Kind.tmod 7) = 1 then (F21 x0 x1.Key x1.N).bind fun t4 => some ((t4.1, t4.2.1, t4.2.2.1, t4.2.2.2.1, t4.2.2.2.2, (⟨#[]⟩ : ByteArray), false)) else (if (x1.Kind.tmod 7) = 2 then (F17 x0).bind fun t6 => some ((t6.1, t6.2.1, t6.2.2.1, t6.2.2.2.1, t6.2.2.2.2.1, t6.2.2.2.2.2.1, t6.2.2.2.2.2.2)) else (if (x1.Kind.tmod 7) = 3 then (F16 x0 x1.Key).bind fun t8 => some ((t8.1, t8.2.1, t8.2.2.1, t8.2.2.2.1, t8.2.2.2.2, (⟨#[]⟩ : ByteArray), false)) else (if (x1.Kind.tmod 7) = 4 then (F19 x0 x1.Key x1.N x1.Base x1.Limit).bind fun t10 => some ((t10.1, t10.2.1, t10.2.2.1, t10.2.2.2.1, t10.2.2.2.2, (⟨#[]⟩ : ByteArray), false)) else (if (x1.Kind.tmod 7) = 5 then (F22 x0 x1.Key).bind fun t12 => some ((t12.1, t12.2.1, t12.2.2.1, t12.2.2.2.1, t12.2.2.2.2, (⟨#[]⟩ : ByteArray), false)) else (F20 x0 x1.N).bind fun t13 => some ((t13.1, t13.2.1, t13.2.2.1, t13.2.2.2.1, t13.2.2.2.2, (⟨#[]⟩ : ByteArray), false))))))))
def a11 : AFn := ⟨59, [(.cell 4 (some 5)), (.tmp 5), (.tmp 6)],
 (.seq (.reg [⟨(some 2), none, .box (.t 0), [], (.new [])⟩,
   ⟨(some 3), none, .box (.t 1), [], (.new [])⟩,
   ⟨(some 4), none, .zbox [.d (.v (.slice none 0 0)), .d (.v (.slice none 0 0)), .d (.v (.slice none 0 0)), .d (.v (.slice none 0 0)), .d (.v (.slice none 0 0))], [], (.new [])⟩,
   ⟨(some 5), none, .mv (kS ⟨#[]⟩), [], (.new [])⟩,
   ⟨(some 6), none, .mv (kB false), [], (.new [])⟩])
 (.seq (.seq (.reg [⟨(some 7), none, .fieldA 0 (.t 3), [], (.new [])⟩,
   ⟨(some 8), none, .load none (.t 7), [], (.new [])⟩,
   ⟨(some 9), none, .bin .rem (.t 8) (.k (.c (.d (.v (.int .u8 7))))), [], (.new [])⟩])
 (.block 0 (.seq (.reg [⟨(some 11), none, .bin .eql (.t 9) (.k (.c (.d (.v (.int .u8 0))))), [], (.new [])⟩,
   ⟨(some 10), none, .mv (.t 11), [], (.new [])⟩])
 (.cond (.t 10)
 (.seq (.reg [⟨(some 12), none, .load (some 5) (.t 2), [], (.new [])⟩,
   ⟨(some 13), none, .fieldA 1 (.t 3), [], (.new [])⟩,
   ⟨(some 14), none, .load none (.t 13), [], (.new [])⟩,
   ⟨(some 15), none, .call 15 [(.t 12), (.t 14)], [], (.new [])⟩,
   ⟨none, none, .store 5 (.t 4) (.t 15), [], (.new [])⟩,
   ⟨(some 5), none, .mv (kS ⟨#[]⟩), [], (.new [])⟩,
   ⟨(some 6), none, .mv (kB false), [], (.new [])⟩])
 .ret)
 (.seq (.reg [⟨(some 17), none, .bin .eql (.t 9) (.k (.c (.d (.v (.int .u8 1))))), [], (.new [])⟩,
   ⟨(some 16), none, .mv (.t 17), [], (.new [])⟩])
 (.cond (.t 16)
 (.seq (.reg [⟨(some 18), none, .load (some 5) (.t 2), [], (.new [])⟩,
   ⟨(some 19), none, .fieldA 1 (.t 3), [], (.new [])⟩,
   ⟨(some 20), none, .load none (.t 19), [], (.new [])⟩,
   ⟨(some 21), none, .fieldA 2 (.t 3), [], (.new [])⟩,
   ⟨(some 22), none, .load none (.t 21), [], (.new [])⟩,
   ⟨(some 23), none, .call 21 [(.t 18), (.t 20), (.t 22)], [], (.new [])⟩,
   ⟨none, none, .store 5 (.t 4) (.t 23), [], (.new [])⟩,
   ⟨(some 5), none, .mv (kS ⟨#[]⟩), [], (.new [])⟩,
   ⟨(some 6), none, .mv (kB false), [], (.new [])⟩])
 .ret)
 (.seq (.reg [⟨(some 25), none, .bin .eql (.t 9) (.k (.c (.d (.v (.int .u8 2))))), [], (.new [])⟩,
   ⟨(some 24), none, .mv (.t 25), [], (.new [])⟩])
 (.cond (.t 24)
 (.seq (.reg [⟨(some 26), none, .load (some 5) (.t 2), [], (.new [])⟩,
   ⟨(some 27), none, .call 17 [(.t 26)], [], (.new [])⟩,
   ⟨(some 28), none, .ext (.t 27) 0, [], (.new [])⟩,
   ⟨(some 29), none, .ext (.t 27) 1, [], (.new [])⟩,
   ⟨(some 30), none, .ext (.t 27) 2, [], (.new [])⟩,
   ⟨none, none, .store 5 (.t 4) (.t 28), [], (.new [])⟩,
   ⟨(some 5), none, .mv (.t 29), [], (.new [])⟩,
   ⟨(some 6), none, .mv (.t 30), [], (.new [])⟩])
 .ret)
 (.seq (.reg [⟨(some 32), none, .bin .eql (.t 9) (.k (.c (.d (.v (.int .u8 3))))), [], (.new [])⟩,
   ⟨(some 31), none, .mv (.t 32), [], (.new [])⟩])
 (.cond (.t 31)
 (.seq (.reg [⟨(some 33), none, .load (some 5) (.t 2), [], (.new [])⟩,
   ⟨(some 34), none, .fieldA 1 (.t 3), [], (.new [])⟩,
   ⟨(some 35), none, .load none (.t 34), [], (.new [])⟩,
   ⟨(some 36), none, .call 16 [(.t 33), (.t 35)], [], (.new [])⟩,
   ⟨none, none, .store 5 (.t 4) (.t 36), [], (.new [])⟩,
   ⟨(some 5), none, .mv (kS ⟨#[]⟩), [], (.new [])⟩,
   ⟨(some 6), none, .mv (kB false), [], (.new [])⟩])
 .ret)
 (.seq (.reg [⟨(some 38), none, .bin .eql (.t 9) (.k (.c (.d (.v (.int .u8 4))))), [], (.new [])⟩,
   ⟨(some 37), none, .mv (.t 38), [], (.new [])⟩])
 (.cond (.t 37)
 (.seq (.reg [⟨(some 39), none, .load (some 5) (.t 2), [], (.new [])⟩,
   ⟨(some 40), none, .fieldA 1 (.t 3), [], (.new [])⟩,
   ⟨(some 41), none, .load none (.t 40), [], (.new [])⟩,
   ⟨(some 42), none, .fieldA 2 (.t 3), [], (.new [])⟩,
   ⟨(some 43), none, .load none (.t 42), [], (.new [])⟩,
   ⟨(some 44), none, .fieldA 3 (.t 3), [], (.new [])⟩,
   ⟨(some 45), none, .load none (.t 44), [], (.new [])⟩,
   ⟨(some 46), none, .fieldA 4 (.t 3), [], (.new [])⟩,
   ⟨(some 47), none, .load none (.t 46), [], (.new [])⟩,
   ⟨(some 48), none, .call 19 [(.t 39), (.t 41), (.t 43), (.t 45), (.t 47)], [], (.new [])⟩,
   ⟨none, none, .store 5 (.t 4) (.t 48), [], (.new [])⟩,
   ⟨(some 5), none, .mv (kS ⟨#[]⟩), [], (.new [])⟩,
   ⟨(some 6), none, .mv (kB false), [], (.new [])⟩])
 .ret)
 (.seq (.reg [⟨(some 50), none, .bin .eql (.t 9) (.k (.c (.d (.v (.int .u8 5))))), [], (.new [])⟩,
   ⟨(some 49), none, .mv (.t 50), [], (.new [])⟩])
 (.cond (.t 49)
 (.seq (.reg [⟨(some 51), none, .load (some 5) (.t 2), [], (.new [])⟩,
   ⟨(some 52), none, .fieldA 1 (.t 3), [], (.new [])⟩,
   ⟨(some 53), none, .load none (.t 52), [], (.new [])⟩,
   ⟨(some 54), none, .call 22 [(.t 51), (.t 53)], [], (.new [])⟩,
   ⟨none, none, .store 5 (.t 4) (.t 54), [], (.new [])⟩,
   ⟨(some 5), none, .mv (kS ⟨#[]⟩), [], (.new [])⟩,
   ⟨(some 6), none, .mv (kB false), [], (.new [])⟩])
 .ret)
 .skip))))))))))))))
 (.seq (.reg [⟨(some 55), none, .load (some 5) (.t 2), [], (.new [])⟩,
   ⟨(some 56), none, .fieldA 2 (.t 3), [], (.new [])⟩,
   ⟨(some 57), none, .load none (.t 56), [], (.new [])⟩,
   ⟨(some 58), none, .call 20 [(.t 55), (.t 57)], [], (.new [])⟩,
   ⟨none, none, .store 5 (.t 4) (.t 58), [], (.new [])⟩,
   ⟨(some 5), none, .mv (kS ⟨#[]⟩), [], (.new [])⟩,
   ⟨(some 6), none, .mv (kB false), [], (.new [])⟩])
 .ret)))⟩
theorem a11_ok : afn Try.prog 11 = some a11.er := by kernel_rfl
theorem F11_ok {x0 : WorkQueue} {x1 : Op} {r : (List ByteArray) × (List ByteArray) × (List ByteArray) × (List WorkItem) × (List WorkItem) × ByteArray × Bool} (h : F11 x0 x1 = some r) : CallD Try.prog 11 [.agg [.d (.sl (x0.Ready.map eS)), .d (.sl (x0.Working.map eS)), .d (.sl (x0.Dirty.map eS)), .d (.sl (x0.Later.map eWorkItem)), .d (.sl (x0.Retries.map eWorkItem))], .agg [.d (.v (.int .u8 x1.Kind)), .d (.v (.string x1.Key)), .d (.v (.int .i64 x1.N)), .d (.v (.int .i64 x1.Base)), .d (.v (.int .i64 x1.Limit))]] [] (tupV [.agg [.d (.sl (r.1.map eS)), .own 0 0 0 (r.2.1.length) none, .own 1 0 0 (r.2.2.1.length) none, .own 2 0 0 (r.2.2.2.1.length) none, .own 3 0 0 (r.2.2.2.2.1.length) none], .c (.d (.v (.string r.2.2.2.2.2.1))), .c (.d (.v (.bool r.2.2.2.2.2.2)))]) [some (.arr 0 1 (r.2.1.map eS)), some (.arr 0 1 (r.2.2.1.map eS)), some (.arr 0 2 (r.2.2.2.1.map eWorkItem)), some (.arr 0 2 (r.2.2.2.2.1.map eWorkItem))] := by
  refine callS a11_ok (by simp [a11]) ?_
  rw [F11] at h
  simp only [a11, VW.down, Nat.reduceEqDiff, reduceCtorEq, Nat.reduceAdd, Nat.reduceLeDiff, Nat.reduceLT, Nat.reduceBEq, Nat.reduceSub, EE.down]
  refine ⟨by omega, ?_⟩
  try simp only [VW.down, Nat.reduceEqDiff, reduceCtorEq, Nat.reduceAdd, Nat.reduceLeDiff, Nat.reduceLT, Nat.reduceBEq, Nat.reduceSub, EE.down]
  refine condS (fun c1 => ?_) (fun c1 => ?_)
  · have h := (if_pos c1).symm.trans h
    simp only [VW.down, Nat.reduceEqDiff, reduceCtorEq, Nat.reduceAdd, Nat.reduceLeDiff, Nat.reduceLT, Nat.reduceBEq, Nat.reduceSub, EE.down]
    obtain ⟨t2, ht2, h⟩ := Option.bind_eq_some_iff.1 h
    refine callX_n [] (F15_ok ht2) ?_ ?_ ?_ ?_ ?_ ?_
    · first | rfl | simp [nrmA, nrmC, nrm, A1.ren, C.ren, rn, List.length_set]
    · simp [liveAll, A1.live, C.live]
    · rfl
    · decide
    · exact trivial
    simp only [VW.down, Nat.reduceEqDiff, reduceCtorEq, Nat.reduceAdd, Nat.reduceLeDiff, Nat.reduceLT, Nat.reduceBEq, Nat.reduceSub, EE.down]
    obtain rfl := Option.some.inj h
    exact eF [some 4, some 5, some 6, some 7]
  · have h := (if_neg c1).symm.trans h
    simp only [VW.down, Nat.reduceEqDiff, reduceCtorEq, Nat.reduceAdd, Nat.reduceLeDiff, Nat.reduceLT, Nat.reduceBEq, Nat.reduceSub, EE.down]
    refine condS (fun c3 => ?_) (fun c3 => ?_)
    · have h := (if_pos c3).symm.trans h
      simp only [VW.down, Nat.reduceEqDiff, reduceCtorEq, Nat.reduceAdd, Nat.reduceLeDiff, Nat.reduceLT, Nat.reduceBEq, Nat.reduceSub, EE.down]
      obtain ⟨t4, ht4, h⟩ := Option.bind_eq_some_iff.1 h
      refine callX_n [] (F21_ok ht4) ?_ ?_ ?_ ?_ ?_ ?_
      · first | rfl | simp [nrmA, nrmC, nrm, A1.ren, C.ren, rn, List.length_set]
      · simp [liveAll, A1.live, C.live]
      · rfl
      · decide
      · exact trivial
      simp only [VW.down, Nat.reduceEqDiff, reduceCtorEq, Nat.reduceAdd, Nat.reduceLeDiff, Nat.reduceLT, Nat.reduceBEq, Nat.reduceSub, EE.down]
      obtain rfl := Option.some.inj h
      exact eF [some 4, some 5, some 6, some 7]
    · have h := (if_neg c3).symm.trans h
      simp only [VW.down, Nat.reduceEqDiff, reduceCtorEq, Nat.reduceAdd, Nat.reduceLeDiff, Nat.reduceLT, Nat.reduceBEq, Nat.reduceSub, EE.down]
      refine condS (fun c5 => ?_) (fun c5 => ?_)
      · have h := (if_pos c5).symm.trans h
        simp only [VW.down, Nat.reduceEqDiff, reduceCtorEq, Nat.reduceAdd, Nat.reduceLeDiff, Nat.reduceLT, Nat.reduceBEq, Nat.reduceSub, EE.down]
        obtain ⟨t6, ht6, h⟩ := Option.bind_eq_some_iff.1 h
        refine callX_n [] (F17_ok ht6) ?_ ?_ ?_ ?_ ?_ ?_
        · first | rfl | simp [nrmA, nrmC, nrm, A1.ren, C.ren, rn, List.length_set]
        · simp [liveAll, A1.live, C.live]
        · rfl
        · decide
        · exact trivial
        simp only [VW.down, Nat.reduceEqDiff, reduceCtorEq, Nat.reduceAdd, Nat.reduceLeDiff, Nat.reduceLT, Nat.reduceBEq, Nat.reduceSub, EE.down]
        obtain rfl := Option.some.inj h
        exact eF [some 3, some 4, some 5, some 6]
      · have h := (if_neg c5).symm.trans h
        simp only [VW.down, Nat.reduceEqDiff, reduceCtorEq, Nat.reduceAdd, Nat.reduceLeDiff, Nat.reduceLT, Nat.reduceBEq, Nat.reduceSub, EE.down]
        refine condS (fun c7 => ?_) (fun c7 => ?_)
        · have h := (if_pos c7).symm.trans h
          simp only [VW.down, Nat.reduceEqDiff, reduceCtorEq, Nat.reduceAdd, Nat.reduceLeDiff, Nat.reduceLT, Nat.reduceBEq, Nat.reduceSub, EE.down]
          obtain ⟨t8, ht8, h⟩ := Option.bind_eq_some_iff.1 h
          refine callX_n [] (F16_ok ht8) ?_ ?_ ?_ ?_ ?_ ?_
          · first | rfl | simp [nrmA, nrmC, nrm, A1.ren, C.ren, rn, List.length_set]
          · simp [liveAll, A1.live, C.live]
          · rfl
          · decide
          · exact trivial
          simp only [VW.down, Nat.reduceEqDiff, reduceCtorEq, Nat.reduceAdd, Nat.reduceLeDiff, Nat.reduceLT, Nat.reduceBEq, Nat.reduceSub, EE.down]
          obtain rfl := Option.some.inj h
          exact eF [some 4, some 5, some 6, some 7]
        · have h := (if_neg c7).symm.trans h
          simp only [VW.down, Nat.reduceEqDiff, reduceCtorEq, Nat.reduceAdd, Nat.reduceLeDiff, Nat.reduceLT, Nat.reduceBEq, Nat.reduceSub, EE.down]
          refine condS (fun c9 => ?_) (fun c9 => ?_)
          · have h := (if_pos c9).symm.trans h
            simp only [VW.down, Nat.reduceEqDiff, reduceCtorEq, Nat.reduceAdd, Nat.reduceLeDiff, Nat.reduceLT, Nat.reduceBEq, Nat.reduceSub, EE.down]
            obtain ⟨t10, ht10, h⟩ := Option.bind_eq_some_iff.1 h
            refine callX_n [] (F19_ok ht10) ?_ ?_ ?_ ?_ ?_ ?_
            · first | rfl | simp [nrmA, nrmC, nrm, A1.ren, C.ren, rn, List.length_set]
            · simp [liveAll, A1.live, C.live]
            · rfl
            · decide
            · exact trivial
            simp only [VW.down, Nat.reduceEqDiff, reduceCtorEq, Nat.reduceAdd, Nat.reduceLeDiff, Nat.reduceLT, Nat.reduceBEq, Nat.reduceSub, EE.down]
            obtain rfl := Option.some.inj h
            exact eF [some 4, some 5, some 6, some 7]
          · have h := (if_neg c9).symm.trans h
            simp only [VW.down, Nat.reduceEqDiff, reduceCtorEq, Nat.reduceAdd, Nat.reduceLeDiff, Nat.reduceLT, Nat.reduceBEq, Nat.reduceSub, EE.down]
            refine condS (fun c11 => ?_) (fun c11 => ?_)
            · have h := (if_pos c11).symm.trans h
              simp only [VW.down, Nat.reduceEqDiff, reduceCtorEq, Nat.reduceAdd, Nat.reduceLeDiff, Nat.reduceLT, Nat.reduceBEq, Nat.reduceSub, EE.down]
              obtain ⟨t12, ht12, h⟩ := Option.bind_eq_some_iff.1 h
              refine callX_n [] (F22_ok ht12) ?_ ?_ ?_ ?_ ?_ ?_
              · first | rfl | simp [nrmA, nrmC, nrm, A1.ren, C.ren, rn, List.length_set]
              · simp [liveAll, A1.live, C.live]
              · rfl
              · decide
              · exact trivial
              simp only [VW.down, Nat.reduceEqDiff, reduceCtorEq, Nat.reduceAdd, Nat.reduceLeDiff, Nat.reduceLT, Nat.reduceBEq, Nat.reduceSub, EE.down]
              obtain rfl := Option.some.inj h
              exact eF [some 4, some 5, some 6, some 7]
            · have h := (if_neg c11).symm.trans h
              simp only [VW.down, Nat.reduceEqDiff, reduceCtorEq, Nat.reduceAdd, Nat.reduceLeDiff, Nat.reduceLT, Nat.reduceBEq, Nat.reduceSub, EE.down]
              obtain ⟨t13, ht13, h⟩ := Option.bind_eq_some_iff.1 h
              refine callX_n [] (F20_ok ht13) ?_ ?_ ?_ ?_ ?_ ?_
              · first | rfl | simp [nrmA, nrmC, nrm, A1.ren, C.ren, rn, List.length_set]
              · simp [liveAll, A1.live, C.live]
              · rfl
              · decide
              · exact trivial
              simp only [VW.down, Nat.reduceEqDiff, reduceCtorEq, Nat.reduceAdd, Nat.reduceLeDiff, Nat.reduceLT, Nat.reduceBEq, Nat.reduceSub, EE.down]
              obtain rfl := Option.some.inj h
              exact eF [some 4, some 5, some 6, some 7]

/- orchestrator/orchestratorref31.Copy -/
def F51 (x0 : WorkQueue) : Option ((List ByteArray) × (List ByteArray) × (List ByteArray) × (List WorkItem) × (List WorkItem)) := (apI ([] : List ByteArray) x0.Ready).bind fun a1 => (apI ([] : List ByteArray) x0.Working).bind fun a2 => (apI ([] : List ByteArray) x0.Dirty).bind fun a3 => (apI ([] : List WorkItem) x0.Later).bind fun a4 => (apI ([] : List WorkItem) x0.Retries).bind fun a5 => some ((a1, a2, a3, a4, a5))
def a51 : AFn := ⟨24, [(.cell 2 (some 5))],
 (.seq (.reg [⟨(some 1), none, .box (.t 0), [], (.new [])⟩,
   ⟨(some 2), none, .zbox [.d (.v (.slice none 0 0)), .d (.v (.slice none 0 0)), .d (.v (.slice none 0 0)), .d (.v (.slice none 0 0)), .d (.v (.slice none 0 0))], [], (.new [])⟩])
 (.seq (.regd [⟨(some 3), none, .bslice 1 [], [], (.new [])⟩,
   ⟨(some 4), none, .fieldA 0 (.t 1), [], (.new [])⟩,
   ⟨(some 5), none, .load none (.t 4), [1], (.new [])⟩,
   ⟨(some 6), none, .app 1 16 (.t 3) (.t 5), [0, 1, 2], (.new [0, 1, 2])⟩,
   ⟨(some 7), none, .bslice 1 [], [], (.new [])⟩,
   ⟨(some 8), none, .fieldA 1 (.t 1), [], (.new [])⟩,
   ⟨(some 9), none, .load none (.t 8), [5], (.new [])⟩,
   ⟨(some 10), none, .app 1 16 (.t 7) (.t 9), [0, 1, 2, 3, 4, 5, 6], (.new [0, 1, 2, 3, 4, 5, 6])⟩,
   ⟨(some 11), none, .bslice 1 [], [], (.new [])⟩,
   ⟨(some 12), none, .fieldA 2 (.t 1), [], (.new [])⟩,
   ⟨(some 13), none, .load none (.t 12), [9], (.new [])⟩,
   ⟨(some 14), none, .app 1 16 (.t 11) (.t 13), [0, 1, 2, 3, 4, 5, 6, 7, 8, 9, 10], (.new [0, 1, 2, 3, 4, 5, 6, 7, 8, 9, 10])⟩,
   ⟨(some 15), none, .bslice 2 [], [], (.new [])⟩,
   ⟨(some 16), none, .fieldA 3 (.t 1), [], (.new [])⟩,
   ⟨(some 17), none, .load none (.t 16), [13], (.new [])⟩,
   ⟨(some 18), none, .app 2 24 (.t 15) (.t 17), [0, 1, 2, 3, 4, 5, 6, 7, 8, 9, 10, 11, 12, 13, 14], (.new [0, 1, 2, 3, 4, 5, 6, 7, 8, 9, 10, 11, 12, 13, 14])⟩,
   ⟨(some 19), none, .bslice 2 [], [], (.new [])⟩,
   ⟨(some 20), none, .fieldA 4 (.t 1), [], (.new [])⟩,
   ⟨(some 21), none, .load none (.t 20), [17], (.new [])⟩,
   ⟨(some 22), none, .app 2 24 (.t 19) (.t 21), [0, 1, 2, 3, 4, 5, 6, 7, 8, 9, 10, 11, 12, 13, 14, 15, 16, 17, 18], (.lone [])⟩,
   ⟨(some 23), none, .build [.d (.v (.slice none 0 0)), .d (.v (.slice none 0 0)), .d (.v (.slice none 0 0)), .d (.v (.slice none 0 0)), .d (.v (.slice none 0 0))] [(0, 1, (.t 6)), (1, 1, (.t 10)), (2, 1, (.t 14)), (3, 1, (.t 18)), (4, 1, (.t 22))], [0, 1, 2, 3, 4, 5, 6, 7, 8, 9, 10, 11, 12, 13, 14, 15, 16, 17, 18, 19], (.lone [])⟩,
   ⟨none, none, .store 5 (.t 2) (.t 23), [0, 1, 2, 3, 4, 5, 6, 7, 8, 9, 10, 11, 12, 13, 14, 15, 16, 17, 18, 19, 20], (.lone [])⟩])
 .ret))⟩
theorem a51_ok : afn Try.prog 51 = some a51.er := by kernel_rfl
theorem F51_ok {x0 : WorkQueue} {r : (List ByteArray) × (List ByteArray) × (List ByteArray) × (List WorkItem) × (List WorkItem)} (h : F51 x0 = some r) : CallD Try.prog 51 [.agg [.d (.sl (x0.Ready.map eS)), .d (.sl (x0.Working.map eS)), .d (.sl (x0.Dirty.map eS)), .d (.sl (x0.Later.map eWorkItem)), .d (.sl (x0.Retries.map eWorkItem))]] [] (tupV [.agg [.own 0 0 0 (r.1.length) none, .own 1 0 0 (r.2.1.length) none, .own 2 0 0 (r.2.2.1.length) none, .own 3 0 0 (r.2.2.2.1.length) none, .own 4 0 0 (r.2.2.2.2.length) none]]) [some (.arr 0 1 (r.1.map eS)), some (.arr 0 1 (r.2.1.map eS)), some (.arr 0 1 (r.2.2.1.map eS)), some (.arr 0 2 (r.2.2.2.1.map eWorkItem)), some (.arr 0 2 (r.2.2.2.2.map eWorkItem))] := by
  refine callS a51_ok (by simp [a51]) ?_
  rw [F51] at h
  simp only [a51, VW.down, Nat.reduceEqDiff, reduceCtorEq, Nat.reduceAdd, Nat.reduceLeDiff, Nat.reduceLT, Nat.reduceBEq, Nat.reduceSub, EE.down]
  refine t_bslice (enc := eS) (ys := ([] : List ByteArray)) rfl rfl (by simp [A1.cells]) rfl ?_
  simp only [VW.down, Nat.reduceEqDiff, reduceCtorEq, Nat.reduceAdd, Nat.reduceLeDiff, Nat.reduceLT, Nat.reduceBEq, Nat.reduceSub, EE.down]
  refine kD_new (by simp [wrs, allW, hset]) ?_
  simp only [VW.down, Nat.reduceEqDiff, reduceCtorEq, Nat.reduceAdd, Nat.reduceLeDiff, Nat.reduceLT, Nat.reduceBEq, Nat.reduceSub, EE.down]
  obtain ⟨a1, ha1, h⟩ := Option.bind_eq_some_iff.1 h
  refine t_app (enc := eS) (xs := ([] : List ByteArray)) rfl rfl (by first | rfl | simp only [List.length_set] | exact (clrL_len (slI_len (by assumption))).symm) rfl (rows_frz (enc := eS) fun _ => rfl) ha1 ?_
  simp only [VW.down, Nat.reduceEqDiff, reduceCtorEq, Nat.reduceAdd, Nat.reduceLeDiff, Nat.reduceLT, Nat.reduceBEq, Nat.reduceSub, EE.down]
  refine kD_own (by simp [wrs, allW, hset, ownW]) ?_
  simp only [VW.down, Nat.reduceEqDiff, reduceCtorEq, Nat.reduceAdd, Nat.reduceLeDiff, Nat.reduceLT, Nat.reduceBEq, Nat.reduceSub, EE.down]
  refine t_bslice (enc := eS) (ys := ([] : List ByteArray)) rfl rfl (by simp [A1.cells]) rfl ?_
  simp only [VW.down, Nat.reduceEqDiff, reduceCtorEq, Nat.reduceAdd, Nat.reduceLeDiff, Nat.reduceLT, Nat.reduceBEq, Nat.reduceSub, EE.down]
  refine kD_new (by simp [wrs, allW, hset]) ?_
  simp only [VW.down, Nat.reduceEqDiff, reduceCtorEq, Nat.reduceAdd, Nat.reduceLeDiff, Nat.reduceLT, Nat.reduceBEq, Nat.reduceSub, EE.down]
  obtain ⟨a2, ha2, h⟩ := Option.bind_eq_some_iff.1 h
  refine t_app (enc := eS) (xs := ([] : List ByteArray)) rfl rfl (by first | rfl | simp only [List.length_set] | exact (clrL_len (slI_len (by assumption))).symm) rfl (rows_frz (enc := eS) fun _ => rfl) ha2 ?_
  simp only [VW.down, Nat.reduceEqDiff, reduceCtorEq, Nat.reduceAdd, Nat.reduceLeDiff, Nat.reduceLT, Nat.reduceBEq, Nat.reduceSub, EE.down]
  refine kD_own (by simp [wrs, allW, hset, ownW]) ?_
  simp only [VW.down, Nat.reduceEqDiff, reduceCtorEq, Nat.reduceAdd, Nat.reduceLeDiff, Nat.reduceLT, Nat.reduceBEq, Nat.reduceSub, EE.down]
  refine t_bslice (enc := eS) (ys := ([] : List ByteArray)) rfl rfl (by simp [A1.cells]) rfl ?_
  simp only [VW.down, Nat.reduceEqDiff, reduceCtorEq, Nat.reduceAdd, Nat.reduceLeDiff, Nat.reduceLT, Nat.reduceBEq, Nat.reduceSub, EE.down]
  refine kD_new (by simp [wrs, allW, hset]) ?_
  simp only [VW.down, Nat.reduceEqDiff, reduceCtorEq, Nat.reduceAdd, Nat.reduceLeDiff, Nat.reduceLT, Nat.reduceBEq, Nat.reduceSub, EE.down]
  obtain ⟨a3, ha3, h⟩ := Option.bind_eq_some_iff.1 h
  refine t_app (enc := eS) (xs := ([] : List ByteArray)) rfl rfl (by first | rfl | simp only [List.length_set] | exact (clrL_len (slI_len (by assumption))).symm) rfl (rows_frz (enc := eS) fun _ => rfl) ha3 ?_
  simp only [VW.down, Nat.reduceEqDiff, reduceCtorEq, Nat.reduceAdd, Nat.reduceLeDiff, Nat.reduceLT, Nat.reduceBEq, Nat.reduceSub, EE.down]
  refine kD_own (by simp [wrs, allW, hset, ownW]) ?_
  simp only [VW.down, Nat.reduceEqDiff, reduceCtorEq, Nat.reduceAdd, Nat.reduceLeDiff, Nat.reduceLT, Nat.reduceBEq, Nat.reduceSub, EE.down]
  refine t_bslice (enc := eWorkItem) (ys := ([] : List WorkItem)) rfl rfl (by simp [A1.cells]) rfl ?_
  simp only [VW.down, Nat.reduceEqDiff, reduceCtorEq, Nat.reduceAdd, Nat.reduceLeDiff, Nat.reduceLT, Nat.reduceBEq, Nat.reduceSub, EE.down]
  refine kD_new (by simp [wrs, allW, hset]) ?_
  simp only [VW.down, Nat.reduceEqDiff, reduceCtorEq, Nat.reduceAdd, Nat.reduceLeDiff, Nat.reduceLT, Nat.reduceBEq, Nat.reduceSub, EE.down]
  obtain ⟨a4, ha4, h⟩ := Option.bind_eq_some_iff.1 h
  refine t_app (enc := eWorkItem) (xs := ([] : List WorkItem)) rfl rfl (by first | rfl | simp only [List.length_set] | exact (clrL_len (slI_len (by assumption))).symm) rfl (rows_frz (enc := eWorkItem) fun _ => rfl) ha4 ?_
  simp only [VW.down, Nat.reduceEqDiff, reduceCtorEq, Nat.reduceAdd, Nat.reduceLeDiff, Nat.reduceLT, Nat.reduceBEq, Nat.reduceSub, EE.down]
  refine kD_own (by simp [wrs, allW, hset, ownW]) ?_
  simp only [VW.down, Nat.reduceEqDiff, reduceCtorEq, Nat.reduceAdd, Nat.reduceLeDiff, Nat.reduceLT, Nat.reduceBEq, Nat.reduceSub, EE.down]
  refine t_bslice (enc := eWorkItem) (ys := ([] : List WorkItem)) rfl rfl (by simp [A1.cells]) rfl ?_
  simp only [VW.down, Nat.reduceEqDiff, reduceCtorEq, Nat.reduceAdd, Nat.reduceLeDiff, Nat.reduceLT, Nat.reduceBEq, Nat.reduceSub, EE.down]
  refine kD_new (by simp [wrs, allW, hset]) ?_
  simp only [VW.down, Nat.reduceEqDiff, reduceCtorEq, Nat.reduceAdd, Nat.reduceLeDiff, Nat.reduceLT, Nat.reduceBEq, Nat.reduceSub, EE.down]
  obtain ⟨a5, ha5, h⟩ := Option.bind_eq_some_iff.1 h
  refine t_app (enc := eWorkItem) (xs := ([] : List WorkItem)) rfl rfl (by first | rfl | simp only [List.length_set] | exact (clrL_len (slI_len (by assumption))).symm) rfl (rows_frz (enc := eWorkItem) fun _ => rfl) ha5 ?_
  simp only [VW.down, Nat.reduceEqDiff, reduceCtorEq, Nat.reduceAdd, Nat.reduceLeDiff, Nat.reduceLT, Nat.reduceBEq, Nat.reduceSub, EE.down]
  obtain rfl := Option.some.inj h
  exact eF [some 2, some 3, some 4, some 5, some 6]

/- orchestrator/orchestratorref10.Has -/
def F14_l1 (x1 : ByteArray) : List ByteArray → Nat → Option ((Bool) ⊕ (Unit))
  | [], o1_0 => some (Sum.inr (()))
  | xo1 :: xs, o1_0 => (if xo1 = x1 then (some true).map Sum.inl else F14_l1 x1 xs (o1_0 + 1))
def F14 (x0 : (List ByteArray)) (x1 : ByteArray) : Option (Bool) := (((ck (0 ≤ x0.length ∧ x0.length ≤ 4294967290)).bind fun u4 => F14_l1 x1 x0 0).bind fun o1 => match o1 with | Sum.inl f => some f | Sum.inr po1 => some false)
def a14 : AFn := ⟨18, [(.tmp 4)],
 (.seq (.reg [⟨(some 4), none, .mv (kB false), [], (.new [])⟩])
 (.seq (.seq (.reg [⟨(some 5), none, .mv (kI 0), [], (.new [])⟩])
 (.sem (.block 0 (.loop (.seq (.seq (.reg [⟨(some 6), none, .mv (.t 5), [], (.new [])⟩,
   ⟨(some 7), none, .mv (.t 0), [], (.new [])⟩,
   ⟨(some 8), none, .len (.t 7), [], (.new [])⟩,
   ⟨(some 9), none, .bin .lss (.t 6) (.t 8), [], (.new [])⟩])
 (.cond (.t 9)
 .skip
 (.exit 0)))
 (.seq (.block 1 (.seq (.reg [⟨(some 12), none, .mv (.t 0), [], (.new [])⟩,
   ⟨(some 13), none, .mv (.t 5), [], (.new [])⟩,
   ⟨(some 14), none, .indexA 1 (.t 12) (.t 13), [], (.new [])⟩,
   ⟨(some 15), none, .load none (.t 14), [], (.new [])⟩,
   ⟨(some 16), none, .mv (.t 1), [], (.new [])⟩,
   ⟨(some 17), none, .bin .eql (.t 15) (.t 16), [], (.new [])⟩])
 (.cond (.t 17)
 (.seq (.reg [⟨(some 4), none, .mv (kB true), [], (.new [])⟩])
 .ret)
 .skip)))
 (.reg [⟨(some 10), none, .mv (.t 5), [], (.new [])⟩,
   ⟨(some 11), none, .bin .add (.t 10) (kI 1), [], (.new [])⟩,
   ⟨(some 5), none, .mv (.t 11), [], (.new [])⟩])))))))
 (.seq (.reg [⟨(some 4), none, .mv (kB false), [], (.new [])⟩])
 .ret)))⟩
theorem a14_ok : afn Try.prog 14 = some a14.er := by kernel_rfl
theorem F14_ok {x0 : (List ByteArray)} {x1 : ByteArray} {r : Bool} (h : F14 x0 x1 = some r) : CallD Try.prog 14 [.c (.d (.sl (x0.map eS))), .c (.d (.v (.string x1)))] [] (tupV [.c (.d (.v (.bool r)))]) [] := by
  refine callS a14_ok (by simp [a14]) ?_
  rw [F14] at h
  simp only [a14, VW.down, Nat.reduceEqDiff, reduceCtorEq, Nat.reduceAdd, Nat.reduceLeDiff, Nat.reduceLT, Nat.reduceBEq, Nat.reduceSub, EE.down]
  obtain ⟨o1, ho, h⟩ := Option.bind_eq_some_iff.1 h
  refine cutS (fun s => ∃ po1, o1 = Sum.inr po1 ∧ s = ⟨[], []⟩) ?_ ?_
  · have h0o1 := h
    have h := ho
    clear ho
    obtain ⟨_, hk, h⟩ := Option.bind_eq_some_iff.1 h
    have hk := ck_some hk
    simp only [VW.down, Nat.reduceEqDiff, reduceCtorEq, Nat.reduceAdd, Nat.reduceLeDiff, Nat.reduceLT, Nat.reduceBEq, Nat.reduceSub, EE.down]
    refine bL (fun j s => ∃ (o1_0 : Nat), (o1_0 ≤ x0.length ∧ j = x0.length - o1_0) ∧ s = ⟨[(0, .one (.c (.d (.sl (x0.map eS))))), (1, .one (.c (.d (.v (.string x1))))), (5, .one (.c (.d (.v (.int .i64 ((o1_0 : Int)))))))], []⟩ ∧ F14_l1 x1 (x0.drop o1_0) o1_0 = some o1) (x0.length - 0) [] ⟨0, ⟨hk.1, rfl⟩, rfl, h⟩ ?_
    rintro _ _ ⟨o1_0, ⟨hi, rfl⟩, rfl, h⟩
    simp only [VW.down, Nat.reduceEqDiff, reduceCtorEq, Nat.reduceAdd, Nat.reduceLeDiff, Nat.reduceLT, Nat.reduceBEq, Nat.reduceSub, EE.down]
    refine condS (fun c2 => ?_) (fun c2 => ?_)
    · obtain ⟨xo1, hxo1, hd⟩ := countY c2
      rw [hd, F14_l1] at h
      simp only [VW.down, Nat.reduceEqDiff, reduceCtorEq, Nat.reduceAdd, Nat.reduceLeDiff, Nat.reduceLT, Nat.reduceBEq, Nat.reduceSub, EE.down]
      refine t_idxF (enc := eS) (xs := x0) rfl rfl hxo1 rfl ?_
      simp only [VW.down, Nat.reduceEqDiff, reduceCtorEq, Nat.reduceAdd, Nat.reduceLeDiff, Nat.reduceLT, Nat.reduceBEq, Nat.reduceSub, EE.down]
      refine condS (fun c3 => ?_) (fun c3 => ?_)
      · have h := (if_pos c3).symm.trans h
        simp only [VW.down, Nat.reduceEqDiff, reduceCtorEq, Nat.reduceAdd, Nat.reduceLeDiff, Nat.reduceLT, Nat.reduceBEq, Nat.reduceSub, EE.down]
        obtain ⟨fh0o1, hfh0o1, rfl⟩ := Option.map_eq_some_iff.1 h
        have h := hfh0o1.trans h0o1
        obtain rfl := Option.some.inj h
        exact eF []
      · have h := (if_neg c3).symm.trans h
        simp only [VW.down, Nat.reduceEqDiff, reduceCtorEq, Nat.reduceAdd, Nat.reduceLeDiff, Nat.reduceLT, Nat.reduceBEq, Nat.reduceSub, EE.down]
        rw [wrapN (by omega)]
        exact eL' (x0.length - (o1_0 + 1)) [] ⟨o1_0 + 1, ⟨by omega, rfl⟩, rfl, h⟩ (by omega)
    · rw [countN c2, F14_l1] at h
      simp only [VW.down, Nat.reduceEqDiff, reduceCtorEq, Nat.reduceAdd, Nat.reduceLeDiff, Nat.reduceLT, Nat.reduceBEq, Nat.reduceSub, EE.down]
      obtain rfl := Option.some.inj h
      exact eM [] ⟨_, rfl, rfl⟩
  · rintro _ ⟨po1, rfl, rfl⟩
    clear ho
    dsimp only at h
    simp only [VW.down, Nat.reduceEqDiff, reduceCtorEq, Nat.reduceAdd, Nat.reduceLeDiff, Nat.reduceLT, Nat.reduceBEq, Nat.reduceSub, EE.down]
    obtain rfl := Option.some.inj h
    exact eF []

/- orchestrator/orchestratorref31.one -/
def F53 (x0 : ByteArray) : Option (Unit) := some (())
def a53 : AFn := ⟨5, [(.tmp 2)],
 (.seq (.reg [⟨(some 2), none, .mv kN, [], (.new [])⟩])
 (.seq (.reg [⟨(some 3), none, .mv (.t 0), [], (.new [])⟩,
   ⟨(some 4), none, .bslice 1 [(.t 3)], [], (.new [])⟩,
   ⟨(some 2), none, .mv (.t 4), [], (.new [])⟩])
 .ret))⟩
theorem a53_ok : afn Try.prog 53 = some a53.er := by kernel_rfl
theorem F53_ok {x0 : ByteArray} {r : Unit} (h : F53 x0 = some r) : CallD Try.prog 53 [.c (.d (.v (.string x0)))] [] (tupV [.c (.own 0 0 0 (([x0]).length) none)]) [some (.arr 0 1 (([x0]).map eS))] := by
  refine callS a53_ok (by simp [a53]) ?_
  rw [F53] at h
  simp only [a53, VW.down, Nat.reduceEqDiff, reduceCtorEq, Nat.reduceAdd, Nat.reduceLeDiff, Nat.reduceLT, Nat.reduceBEq, Nat.reduceSub, EE.down]
  refine t_bslice (enc := eS) (ys := [x0]) rfl rfl (by simp [A1.cells]) rfl ?_
  simp only [VW.down, Nat.reduceEqDiff, reduceCtorEq, Nat.reduceAdd, Nat.reduceLeDiff, Nat.reduceLT, Nat.reduceBEq, Nat.reduceSub, EE.down]
  obtain rfl := Option.some.inj h
  exact eF [some 0]

/- orchestrator/orchestratorref10.put -/
def F38_l1 (x1 : ByteArray) : List ByteArray → Nat → (List ByteArray) → Bool → Option ((List ByteArray) × Bool)
  | [], o1_2, o1_0, o1_1 => some ((o1_0, o1_1))
  | xo1 :: xs, o1_2, o1_0, o1_1 => (((((((if (nb o1_1) = true then some ((Op.bytesLess x1.toList xo1.toList || decide (x1 = xo1))) else some false)).bind fun o5 => (if o5 = true then (apI o1_0 ([x1])).bind fun a8 => some ((a8, true)) else some ((o1_0, o1_1))))).bind fun o4 => (if ¬ (xo1 = x1) then (apI o4.1 ([xo1])).bind fun a10 => some ((a10, o4.2)) else some ((o4.1, o4.2))))).bind fun o3 => F38_l1 x1 xs (o1_2 + 1) o3.1 o3.2)
def F38 (x0 : (List ByteArray)) (x1 : ByteArray) : Option ((List ByteArray)) := (((ck (0 ≤ x0.length ∧ x0.length ≤ 4294967290)).bind fun u11 => F38_l1 x1 x0 0 ([]) false).bind fun o1 => (if (nb o1.2) = true then (apI o1.1 ([x1])).bind fun a13 => some a13 else some o1.1))
def a38 : AFn := ⟨48, [(.tmp 4)],
 (.seq (.reg [⟨(some 4), none, .mv kN, [], (.new [])⟩])
 (.seq (.reg [⟨(some 5), none, .mv kN, [], (.new [])⟩])
 (.seq (.reg [⟨(some 6), none, .mv (kB false), [], (.new [])⟩])
 (.seq (.seq (.reg [⟨(some 7), none, .mv (kI 0), [], (.new [])⟩])
 (.sem (.block 0 (.loop (.seq (.seq (.reg [⟨(some 8), none, .mv (.t 7), [], (.new [])⟩,
   ⟨(some 9), none, .mv (.t 0), [], (.new [])⟩,
   ⟨(some 10), none, .len (.t 9), [], (.new [])⟩,
   ⟨(some 11), none, .bin .lss (.t 8) (.t 10), [], (.new [])⟩])
 (.cond (.t 11)
 .skip
 (.exit 0)))
 (.seq (.sem (.block 1 (.seq (.sem (.seq (.sem (.reg [⟨(some 14), none, .mv (.t 6), [], (.new [])⟩,
   ⟨(some 15), none, .not (.t 14), [], (.new [])⟩,
   ⟨(some 16), none, .mv (.t 15), [], (.new [])⟩,
   ⟨(some 17), (some (16, true)), .mv (.t 1), [], (.new [])⟩,
   ⟨(some 18), (some (16, true)), .mv (.t 0), [], (.new [])⟩,
   ⟨(some 19), (some (16, true)), .mv (.t 7), [], (.new [])⟩,
   ⟨(some 20), (some (16, true)), .indexA 1 (.t 18) (.t 19), [], (.new [])⟩,
   ⟨(some 21), (some (16, true)), .load none (.t 20), [], (.new [])⟩,
   ⟨(some 22), (some (16, true)), .bin .leq (.t 17) (.t 21), [], (.new [])⟩,
   ⟨(some 23), none, .pick (.t 16) (.t 22) (kB false), [], (.lone [18, 20])⟩]))
 (.cond (.t 23)
 (.seq (.reg [⟨(some 24), none, .mv (.t 5), [], (.new [])⟩,
   ⟨(some 25), none, .mv (.t 1), [], (.new [])⟩,
   ⟨(some 26), none, .bslice 1 [(.t 25)], [], (.new [])⟩,
   ⟨(some 27), none, .app 1 16 (.t 24) (.t 26), [], (.new [])⟩,
   ⟨(some 5), none, .mv (.t 27), [], (.new [])⟩])
 (.reg [⟨(some 6), none, .mv (kB true), [], (.new [])⟩]))
 .skip)))
 (.seq (.reg [⟨(some 28), none, .mv (.t 0), [], (.new [])⟩,
   ⟨(some 29), none, .mv (.t 7), [], (.new [])⟩,
   ⟨(some 30), none, .indexA 1 (.t 28) (.t 29), [], (.new [])⟩,
   ⟨(some 31), none, .load none (.t 30), [], (.new [])⟩,
   ⟨(some 32), none, .mv (.t 1), [], (.new [])⟩,
   ⟨(some 33), none, .bin .neq (.t 31) (.t 32), [], (.new [])⟩])
 (.cond (.t 33)
 (.reg [⟨(some 34), none, .mv (.t 5), [], (.new [])⟩,
   ⟨(some 35), none, .mv (.t 0), [], (.new [])⟩,
   ⟨(some 36), none, .mv (.t 7), [], (.new [])⟩,
   ⟨(some 37), none, .indexA 1 (.t 35) (.t 36), [], (.new [])⟩,
   ⟨(some 38), none, .load none (.t 37), [], (.new [])⟩,
   ⟨(some 39), none, .bslice 1 [(.t 38)], [], (.new [])⟩,
   ⟨(some 40), none, .app 1 16 (.t 34) (.t 39), [], (.new [])⟩,
   ⟨(some 5), none, .mv (.t 40), [], (.new [])⟩])
 .skip)))))
 (.reg [⟨(some 12), none, .mv (.t 7), [], (.new [])⟩,
   ⟨(some 13), none, .bin .add (.t 12) (kI 1), [], (.new [])⟩,
   ⟨(some 7), none, .mv (.t 13), [], (.new [])⟩])))))))
 (.seq (.seq (.reg [⟨(some 41), none, .mv (.t 6), [], (.new [])⟩,
   ⟨(some 42), none, .not (.t 41), [], (.new [])⟩])
 (.cond (.t 42)
 (.reg [⟨(some 43), none, .mv (.t 5), [], (.new [])⟩,
   ⟨(some 44), none, .mv (.t 1), [], (.new [])⟩,
   ⟨(some 45), none, .bslice 1 [(.t 44)], [], (.new [])⟩,
   ⟨(some 46), none, .app 1 16 (.t 43) (.t 45), [], (.new [])⟩,
   ⟨(some 5), none, .mv (.t 46), [], (.new [])⟩])
 .skip))
 (.seq (.reg [⟨(some 47), none, .mv (.t 5), [], (.new [])⟩,
   ⟨(some 4), none, .mv (.t 47), [], (.new [])⟩])
 .ret))))))⟩
theorem a38_ok : afn Try.prog 38 = some a38.er := by kernel_rfl
theorem F38_ok {x0 : (List ByteArray)} {x1 : ByteArray} {r : (List ByteArray)} (h : F38 x0 x1 = some r) : CallD Try.prog 38 [.c (.d (.sl (x0.map eS))), .c (.d (.v (.string x1)))] [] (tupV [.c (.own 0 0 0 (r.length) none)]) [some (.arr 0 1 (r.map eS))] := by
  refine callS a38_ok (by simp [a38]) ?_
  rw [F38] at h
  simp only [a38, VW.down, Nat.reduceEqDiff, reduceCtorEq, Nat.reduceAdd, Nat.reduceLeDiff, Nat.reduceLT, Nat.reduceBEq, Nat.reduceSub, EE.down]
  obtain ⟨o1, ho, h⟩ := Option.bind_eq_some_iff.1 h
  refine cutS (fun s => s = ⟨[(1, .one (.c (.d (.v (.string x1))))), (5, .one (.c (.own 0 0 0 (o1.1.length) none))), (6, .one (.c (.d (.v (.bool o1.2)))))], [some (.arr 0 1 (o1.1.map eS))]⟩) ?_ ?_
  · have h := ho
    clear ho
    obtain ⟨_, hk, h⟩ := Option.bind_eq_some_iff.1 h
    have hk := ck_some hk
    simp only [VW.down, Nat.reduceEqDiff, reduceCtorEq, Nat.reduceAdd, Nat.reduceLeDiff, Nat.reduceLT, Nat.reduceBEq, Nat.reduceSub, EE.down]
    refine bL (fun j s => ∃ (o1_2 : Nat) (o1_0 : List ByteArray) (o1_1 : Bool), (o1_2 ≤ x0.length ∧ j = x0.length - o1_2) ∧ s = ⟨[(0, .one (.c (.d (.sl (x0.map eS))))), (1, .one (.c (.d (.v (.string x1))))), (5, .one (.c (.own 0 0 0 (o1_0.length) none))), (6, .one (.c (.d (.v (.bool o1_1))))), (7, .one (.c (.d (.v (.int .i64 ((o1_2 : Int)))))))], [some (.arr 0 1 (o1_0.map eS))]⟩ ∧ F38_l1 x1 (x0.drop o1_2) o1_2 o1_0 o1_1 = some o1) (x0.length - 0) [none] ⟨0, [], false, ⟨hk.1, rfl⟩, rfl, h⟩ ?_
    rintro _ _ ⟨o1_2, o1_0, o1_1, ⟨hi, rfl⟩, rfl, h⟩
    simp only [VW.down, Nat.reduceEqDiff, reduceCtorEq, Nat.reduceAdd, Nat.reduceLeDiff, Nat.reduceLT, Nat.reduceBEq, Nat.reduceSub, EE.down]
    refine condS (fun c2 => ?_) (fun c2 => ?_)
    · obtain ⟨xo1, hxo1, hd⟩ := countY c2
      rw [hd, F38_l1] at h
      simp only [VW.down, Nat.reduceEqDiff, reduceCtorEq, Nat.reduceAdd, Nat.reduceLeDiff, Nat.reduceLT, Nat.reduceBEq, Nat.reduceSub, EE.down]
      obtain ⟨o3, ho, h⟩ := Option.bind_eq_some_iff.1 h
      refine cutS (fun s => s = ⟨[(0, .one (.c (.d (.sl (x0.map eS))))), (1, .one (.c (.d (.v (.string x1))))), (5, .one (.c (.own 0 0 0 (o3.1.length) none))), (6, .one (.c (.d (.v (.bool o3.2))))), (7, .one (.c (.d (.v (.int .i64 ((o1_2 : Int)))))))], [some (.arr 0 1 (o3.1.map eS))]⟩) ?_ ?_
      · have h := ho
        clear ho
        simp only [VW.down, Nat.reduceEqDiff, reduceCtorEq, Nat.reduceAdd, Nat.reduceLeDiff, Nat.reduceLT, Nat.reduceBEq, Nat.reduceSub, EE.down]
        obtain ⟨o4, ho, h⟩ := Option.bind_eq_some_iff.1 h
        refine cutS (fun s => s = ⟨[(0, .one (.c (.d (.sl (x0.map eS))))), (1, .one (.c (.d (.v (.string x1))))), (5, .one (.c (.own 0 0 0 (o4.1.length) none))), (6, .one (.c (.d (.v (.bool o4.2))))), (7, .one (.c (.d (.v (.int .i64 ((o1_2 : Int)))))))], [some (.arr 0 1 (o4.1.map eS))]⟩) ?_ ?_
        · have h := ho
          clear ho
          simp only [VW.down, Nat.reduceEqDiff, reduceCtorEq, Nat.reduceAdd, Nat.reduceLeDiff, Nat.reduceLT, Nat.reduceBEq, Nat.reduceSub, EE.down]
          obtain ⟨o5, ho, h⟩ := Option.bind_eq_some_iff.1 h
          refine cutS (fun s => s = ⟨[(0, .one (.c (.d (.sl (x0.map eS))))), (1, .one (.c (.d (.v (.string x1))))), (5, .one (.c (.own 0 0 0 (o1_0.length) none))), (6, .one (.c (.d (.v (.bool o1_1))))), (7, .one (.c (.d (.v (.int .i64 ((o1_2 : Int))))))), (23, .one (.c (.d (.v (.bool o5)))))], [some (.arr 0 1 (o1_0.map eS))]⟩) ?_ ?_
          · have h := ho
            clear ho
            simp only [VW.down, Nat.reduceEqDiff, reduceCtorEq, Nat.reduceAdd, Nat.reduceLeDiff, Nat.reduceLT, Nat.reduceBEq, Nat.reduceSub, EE.down]
            refine guardSB (fun g6 => ?_) (fun g6 => ?_)
            · have h := (if_pos g6).symm.trans h
              simp only [VW.down, Nat.reduceEqDiff, reduceCtorEq, Nat.reduceAdd, Nat.reduceLeDiff, Nat.reduceLT, Nat.reduceBEq, Nat.reduceSub, EE.down]
              refine t_idxF (enc := eS) (xs := x0) rfl rfl hxo1 rfl ?_
              simp only [VW.down, Nat.reduceEqDiff, reduceCtorEq, Nat.reduceAdd, Nat.reduceLeDiff, Nat.reduceLT, Nat.reduceBEq, Nat.reduceSub, EE.down]
              obtain rfl := Option.some.inj h
              exact eM [some 0] rfl
            · have h := (if_neg g6).symm.trans h
              simp only [VW.down, Nat.reduceEqDiff, reduceCtorEq, Nat.reduceAdd, Nat.reduceLeDiff, Nat.reduceLT, Nat.reduceBEq, Nat.reduceSub, EE.down]
              obtain rfl := Option.some.inj h
              exact eM [some 0] rfl
          · rintro _ rfl
            clear ho
            simp only [VW.down, Nat.reduceEqDiff, reduceCtorEq, Nat.reduceAdd, Nat.reduceLeDiff, Nat.reduceLT, Nat.reduceBEq, Nat.reduceSub, EE.down]
            refine condB (fun c7 => ?_) (fun c7 => ?_)
            · have h := (if_pos c7).symm.trans h
              simp only [VW.down, Nat.reduceEqDiff, reduceCtorEq, Nat.reduceAdd, Nat.reduceLeDiff, Nat.reduceLT, Nat.reduceBEq, Nat.reduceSub, EE.down]
              refine t_bslice (enc := eS) (ys := [x1]) rfl rfl (by simp [A1.cells]) rfl ?_
              simp only [VW.down, Nat.reduceEqDiff, reduceCtorEq, Nat.reduceAdd, Nat.reduceLeDiff, Nat.reduceLT, Nat.reduceBEq, Nat.reduceSub, EE.down]
              obtain ⟨a8, ha8, h⟩ := Option.bind_eq_some_iff.1 h
              refine t_app (enc := eS) (xs := o1_0) rfl rfl (by first | rfl | simp only [List.length_set] | exact (clrL_len (slI_len (by assumption))).symm) rfl (rows_full (enc := eS) (by first | rfl | simp only [List.length_set] | exact (clrL_len (slI_len (by assumption))).symm) rfl) ha8 ?_
              simp only [VW.down, Nat.reduceEqDiff, reduceCtorEq, Nat.reduceAdd, Nat.reduceLeDiff, Nat.reduceLT, Nat.reduceBEq, Nat.reduceSub, EE.down]
              obtain rfl := Option.some.inj h
              exact eM [some 0] rfl
            · have h := (if_neg c7).symm.trans h
              simp only [VW.down, Nat.reduceEqDiff, reduceCtorEq, Nat.reduceAdd, Nat.reduceLeDiff, Nat.reduceLT, Nat.reduceBEq, Nat.reduceSub, EE.down]
              obtain rfl := Option.some.inj h
              exact eM [some 0] rfl
        · rintro _ rfl
          clear ho
          simp only [VW.down, Nat.reduceEqDiff, reduceCtorEq, Nat.reduceAdd, Nat.reduceLeDiff, Nat.reduceLT, Nat.reduceBEq, Nat.reduceSub, EE.down]
          refine t_idxF (enc := eS) (xs := x0) rfl rfl hxo1 rfl ?_
          simp only [VW.down, Nat.reduceEqDiff, reduceCtorEq, Nat.reduceAdd, Nat.reduceLeDiff, Nat.reduceLT, Nat.reduceBEq, Nat.reduceSub, EE.down]
          refine condS (fun c9 => ?_) (fun c9 => ?_)
          · have h := (if_pos c9).symm.trans h
            simp only [VW.down, Nat.reduceEqDiff, reduceCtorEq, Nat.reduceAdd, Nat.reduceLeDiff, Nat.reduceLT, Nat.reduceBEq, Nat.reduceSub, EE.down]
            refine t_idxF (enc := eS) (xs := x0) rfl rfl hxo1 rfl ?_
            simp only [VW.down, Nat.reduceEqDiff, reduceCtorEq, Nat.reduceAdd, Nat.reduceLeDiff, Nat.reduceLT, Nat.reduceBEq, Nat.reduceSub, EE.down]
            refine t_bslice (enc := eS) (ys := [xo1]) rfl rfl (by simp [A1.cells]) rfl ?_
            simp only [VW.down, Nat.reduceEqDiff, reduceCtorEq, Nat.reduceAdd, Nat.reduceLeDiff, Nat.reduceLT, Nat.reduceBEq, Nat.reduceSub, EE.down]
            obtain ⟨a10, ha10, h⟩ := Option.bind_eq_some_iff.1 h
            refine t_app (enc := eS) (xs := o4.1) rfl rfl (by first | rfl | simp only [List.length_set] | exact (clrL_len (slI_len (by assumption))).symm) rfl (rows_full (enc := eS) (by first | rfl | simp only [List.length_set] | exact (clrL_len (slI_len (by assumption))).symm) rfl) ha10 ?_
            simp only [VW.down, Nat.reduceEqDiff, reduceCtorEq, Nat.reduceAdd, Nat.reduceLeDiff, Nat.reduceLT, Nat.reduceBEq, Nat.reduceSub, EE.down]
            obtain rfl := Option.some.inj h
            exact eM [some 0] rfl
          · have h := (if_neg c9).symm.trans h
            simp only [VW.down, Nat.reduceEqDiff, reduceCtorEq, Nat.reduceAdd, Nat.reduceLeDiff, Nat.reduceLT, Nat.reduceBEq, Nat.reduceSub, EE.down]
            obtain rfl := Option.some.inj h
            exact eM [some 0] rfl
      · rintro _ rfl
        clear ho
        simp only [VW.down, Nat.reduceEqDiff, reduceCtorEq, Nat.reduceAdd, Nat.reduceLeDiff, Nat.reduceLT, Nat.reduceBEq, Nat.reduceSub, EE.down]
        rw [wrapN (by omega)]
        exact eL' (x0.length - (o1_2 + 1)) [some 0] ⟨o1_2 + 1, o3.1, o3.2, ⟨by omega, rfl⟩, rfl, h⟩ (by omega)
    · rw [countN c2, F38_l1] at h
      simp only [VW.down, Nat.reduceEqDiff, reduceCtorEq, Nat.reduceAdd, Nat.reduceLeDiff, Nat.reduceLT, Nat.reduceBEq, Nat.reduceSub, EE.down]
      obtain rfl := Option.some.inj h
      exact eM [some 0] rfl
  · rintro _ rfl
    clear ho
    simp only [VW.down, Nat.reduceEqDiff, reduceCtorEq, Nat.reduceAdd, Nat.reduceLeDiff, Nat.reduceLT, Nat.reduceBEq, Nat.reduceSub, EE.down]
    refine condB (fun c12 => ?_) (fun c12 => ?_)
    · have h := (if_pos c12).symm.trans h
      simp only [VW.down, Nat.reduceEqDiff, reduceCtorEq, Nat.reduceAdd, Nat.reduceLeDiff, Nat.reduceLT, Nat.reduceBEq, Nat.reduceSub, EE.down]
      refine t_bslice (enc := eS) (ys := [x1]) rfl rfl (by simp [A1.cells]) rfl ?_
      simp only [VW.down, Nat.reduceEqDiff, reduceCtorEq, Nat.reduceAdd, Nat.reduceLeDiff, Nat.reduceLT, Nat.reduceBEq, Nat.reduceSub, EE.down]
      obtain ⟨a13, ha13, h⟩ := Option.bind_eq_some_iff.1 h
      refine t_app (enc := eS) (xs := o1.1) rfl rfl (by first | rfl | simp only [List.length_set] | exact (clrL_len (slI_len (by assumption))).symm) rfl (rows_full (enc := eS) (by first | rfl | simp only [List.length_set] | exact (clrL_len (slI_len (by assumption))).symm) rfl) ha13 ?_
      simp only [VW.down, Nat.reduceEqDiff, reduceCtorEq, Nat.reduceAdd, Nat.reduceLeDiff, Nat.reduceLT, Nat.reduceBEq, Nat.reduceSub, EE.down]
      obtain rfl := Option.some.inj h
      exact eF [some 0]
    · have h := (if_neg c12).symm.trans h
      simp only [VW.down, Nat.reduceEqDiff, reduceCtorEq, Nat.reduceAdd, Nat.reduceLeDiff, Nat.reduceLT, Nat.reduceBEq, Nat.reduceSub, EE.down]
      obtain rfl := Option.some.inj h
      exact eF [some 0]

/- orchestrator/orchestratorref10.Union -/
def F52_l1  : List ByteArray → Nat → (List ByteArray) → Option ((List ByteArray))
  | [], o1_1, o1_0 => some o1_0
  | xo1 :: xs, o1_1, o1_0 => (F38 o1_0 xo1).bind fun t3 => F52_l1  xs (o1_1 + 1) t3
def F52_l5  : List ByteArray → Nat → (List ByteArray) → Option ((List ByteArray))
  | [], o5_1, o5_0 => some o5_0
  | xo5 :: xs, o5_1, o5_0 => (F38 o5_0 xo5).bind fun t7 => F52_l5  xs (o5_1 + 1) t7
def F52 (x0 : (List ByteArray)) (x1 : (List ByteArray)) : Option ((List ByteArray)) := (((ck (0 ≤ x0.length ∧ x0.length ≤ 4294967290)).bind fun u4 => F52_l1 x0 0 ([])).bind fun o1 => (((ck (0 ≤ x1.length ∧ x1.length ≤ 4294967290)).bind fun u8 => F52_l5 x1 0 o1).bind fun o5 => some o5))
def a52 : AFn := ⟨33, [(.tmp 4)],
 (.seq (.reg [⟨(some 4), none, .mv kN, [], (.new [])⟩])
 (.seq (.reg [⟨(some 5), none, .mv kN, [], (.new [])⟩])
 (.seq (.seq (.reg [⟨(some 6), none, .mv (kI 0), [], (.new [])⟩])
 (.sem (.block 0 (.loop (.seq (.seq (.reg [⟨(some 8), none, .mv (.t 6), [], (.new [])⟩,
   ⟨(some 9), none, .mv (.t 0), [], (.new [])⟩,
   ⟨(some 10), none, .len (.t 9), [], (.new [])⟩,
   ⟨(some 11), none, .bin .lss (.t 8) (.t 10), [], (.new [])⟩])
 (.cond (.t 11)
 .skip
 (.exit 0)))
 (.seq (.block 1 (.reg [⟨(some 14), none, .mv (.t 5), [], (.new [])⟩,
   ⟨(some 15), none, .mv (.t 0), [], (.new [])⟩,
   ⟨(some 16), none, .mv (.t 6), [], (.new [])⟩,
   ⟨(some 17), none, .indexA 1 (.t 15) (.t 16), [], (.new [])⟩,
   ⟨(some 18), none, .load none (.t 17), [], (.new [])⟩,
   ⟨(some 19), none, .call 38 [(.t 14), (.t 18)], [], (.new [])⟩,
   ⟨(some 5), none, .mv (.t 19), [], (.new [])⟩]))
 (.reg [⟨(some 12), none, .mv (.t 6), [], (.new [])⟩,
   ⟨(some 13), none, .bin .add (.t 12) (kI 1), [], (.new [])⟩,
   ⟨(some 6), none, .mv (.t 13), [], (.new [])⟩])))))))
 (.seq (.seq (.reg [⟨(some 7), none, .mv (kI 0), [], (.new [])⟩])
 (.sem (.block 2 (.loop (.seq (.seq (.reg [⟨(some 20), none, .mv (.t 7), [], (.new [])⟩,
   ⟨(some 21), none, .mv (.t 1), [], (.new [])⟩,
   ⟨(some 22), none, .len (.t 21), [], (.new [])⟩,
   ⟨(some 23), none, .bin .lss (.t 20) (.t 22), [], (.new [])⟩])
 (.cond (.t 23)
 .skip
 (.exit 2)))
 (.seq (.block 3 (.reg [⟨(some 26), none, .mv (.t 5), [], (.new [])⟩,
   ⟨(some 27), none, .mv (.t 1), [], (.new [])⟩,
   ⟨(some 28), none, .mv (.t 7), [], (.new [])⟩,
   ⟨(some 29), none, .indexA 1 (.t 27) (.t 28), [], (.new [])⟩,
   ⟨(some 30), none, .load none (.t 29), [], (.new [])⟩,
   ⟨(some 31), none, .call 38 [(.t 26), (.t 30)], [], (.new [])⟩,
   ⟨(some 5), none, .mv (.t 31), [], (.new [])⟩]))
 (.reg [⟨(some 24), none, .mv (.t 7), [], (.new [])⟩,
   ⟨(some 25), none, .bin .add (.t 24) (kI 1), [], (.new [])⟩,
   ⟨(some 7), none, .mv (.t 25), [], (.new [])⟩])))))))
 (.seq (.reg [⟨(some 32), none, .mv (.t 5), [], (.new [])⟩,
   ⟨(some 4), none, .mv (.t 32), [], (.new [])⟩])
 .ret)))))⟩
theorem a52_ok : afn Try.prog 52 = some a52.er := by kernel_rfl
theorem F52_ok {x0 : (List ByteArray)} {x1 : (List ByteArray)} {r : (List ByteArray)} (h : F52 x0 x1 = some r) : CallD Try.prog 52 [.c (.d (.sl (x0.map eS))), .c (.d (.sl (x1.map eS)))] [] (tupV [.c (.own 0 0 0 (r.length) none)]) [some (.arr 0 1 (r.map eS))] := by
  refine callS a52_ok (by simp [a52]) ?_
  rw [F52] at h
  simp only [a52, VW.down, Nat.reduceEqDiff, reduceCtorEq, Nat.reduceAdd, Nat.reduceLeDiff, Nat.reduceLT, Nat.reduceBEq, Nat.reduceSub, EE.down]
  obtain ⟨o1, ho, h⟩ := Option.bind_eq_some_iff.1 h
  refine cutS (fun s => s = ⟨[(1, .one (.c (.d (.sl (x1.map eS))))), (5, .one (.c (.own 0 0 0 (o1.length) none)))], [some (.arr 0 1 (o1.map eS))]⟩) ?_ ?_
  · have h := ho
    clear ho
    obtain ⟨_, hk, h⟩ := Option.bind_eq_some_iff.1 h
    have hk := ck_some hk
    simp only [VW.down, Nat.reduceEqDiff, reduceCtorEq, Nat.reduceAdd, Nat.reduceLeDiff, Nat.reduceLT, Nat.reduceBEq, Nat.reduceSub, EE.down]
    refine bL (fun j s => ∃ (o1_1 : Nat) (o1_0 : List ByteArray), (o1_1 ≤ x0.length ∧ j = x0.length - o1_1) ∧ s = ⟨[(0, .one (.c (.d (.sl (x0.map eS))))), (1, .one (.c (.d (.sl (x1.map eS))))), (5, .one (.c (.own 0 0 0 (o1_0.length) none))), (6, .one (.c (.d (.v (.int .i64 ((o1_1 : Int)))))))], [some (.arr 0 1 (o1_0.map eS))]⟩ ∧ F52_l1 (x0.drop o1_1) o1_1 o1_0 = some o1) (x0.length - 0) [none] ⟨0, [], ⟨hk.1, rfl⟩, rfl, h⟩ ?_
    rintro _ _ ⟨o1_1, o1_0, ⟨hi, rfl⟩, rfl, h⟩
    simp only [VW.down, Nat.reduceEqDiff, reduceCtorEq, Nat.reduceAdd, Nat.reduceLeDiff, Nat.reduceLT, Nat.reduceBEq, Nat.reduceSub, EE.down]
    refine condS (fun c2 => ?_) (fun c2 => ?_)
    · obtain ⟨xo1, hxo1, hd⟩ := countY c2
      rw [hd, F52_l1] at h
      simp only [VW.down, Nat.reduceEqDiff, reduceCtorEq, Nat.reduceAdd, Nat.reduceLeDiff, Nat.reduceLT, Nat.reduceBEq, Nat.reduceSub, EE.down]
      refine t_idxF (enc := eS) (xs := x0) rfl rfl hxo1 rfl ?_
      simp only [VW.down, Nat.reduceEqDiff, reduceCtorEq, Nat.reduceAdd, Nat.reduceLeDiff, Nat.reduceLT, Nat.reduceBEq, Nat.reduceSub, EE.down]
      obtain ⟨t3, ht3, h⟩ := Option.bind_eq_some_iff.1 h
      refine callX_borF (F38_ok ht3) (by simp only [borAs, bors, hp, List.getElem?_cons_zero, List.getElem?_cons_succ, Option.join_some, List.drop_zero, bor_full', true_and, Nat.zero_add, List.length_map, Nat.le_refl, nrm, List.length_cons, List.length_nil, Nat.reduceAdd, Nat.reduceLeDiff, List.take_succ_cons, List.take_zero, List.take_nil, List.map_cons, List.map_nil, List.length_set, EE.down]) rfl ⟨flat_rows (enc := eS) (fun _ => rfl) _, trivial⟩ ?_
      simp only [VW.down, Nat.reduceEqDiff, reduceCtorEq, Nat.reduceAdd, Nat.reduceLeDiff, Nat.reduceLT, Nat.reduceBEq, Nat.reduceSub, EE.down]
      rw [wrapN (by omega)]
      exact eL' (x0.length - (o1_1 + 1)) [some 1] ⟨o1_1 + 1, t3, ⟨by omega, rfl⟩, rfl, h⟩ (by omega)
    · rw [countN c2, F52_l1] at h
      simp only [VW.down, Nat.reduceEqDiff, reduceCtorEq, Nat.reduceAdd, Nat.reduceLeDiff, Nat.reduceLT, Nat.reduceBEq, Nat.reduceSub, EE.down]
      obtain rfl := Option.some.inj h
      exact eM [some 0] rfl
  · rintro _ rfl
    clear ho
    simp only [VW.down, Nat.reduceEqDiff, reduceCtorEq, Nat.reduceAdd, Nat.reduceLeDiff, Nat.reduceLT, Nat.reduceBEq, Nat.reduceSub, EE.down]
    obtain ⟨o5, ho, h⟩ := Option.bind_eq_some_iff.1 h
    refine cutS (fun s => s = ⟨[(5, .one (.c (.own 0 0 0 (o5.length) none)))], [some (.arr 0 1 (o5.map eS))]⟩) ?_ ?_
    · have h := ho
      clear ho
      obtain ⟨_, hk, h⟩ := Option.bind_eq_some_iff.1 h
      have hk := ck_some hk
      simp only [VW.down, Nat.reduceEqDiff, reduceCtorEq, Nat.reduceAdd, Nat.reduceLeDiff, Nat.reduceLT, Nat.reduceBEq, Nat.reduceSub, EE.down]
      refine bL (fun j s => ∃ (o5_1 : Nat) (o5_0 : List ByteArray), (o5_1 ≤ x1.length ∧ j = x1.length - o5_1) ∧ s = ⟨[(1, .one (.c (.d (.sl (x1.map eS))))), (5, .one (.c (.own 0 0 0 (o5_0.length) none))), (7, .one (.c (.d (.v (.int .i64 ((o5_1 : Int)))))))], [some (.arr 0 1 (o5_0.map eS))]⟩ ∧ F52_l5 (x1.drop o5_1) o5_1 o5_0 = some o5) (x1.length - 0) [some 0] ⟨0, o1, ⟨hk.1, rfl⟩, rfl, h⟩ ?_
      rintro _ _ ⟨o5_1, o5_0, ⟨hi, rfl⟩, rfl, h⟩
      simp only [VW.down, Nat.reduceEqDiff, reduceCtorEq, Nat.reduceAdd, Nat.reduceLeDiff, Nat.reduceLT, Nat.reduceBEq, Nat.reduceSub, EE.down]
      refine condS (fun c6 => ?_) (fun c6 => ?_)
      · obtain ⟨xo5, hxo5, hd⟩ := countY c6
        rw [hd, F52_l5] at h
        simp only [VW.down, Nat.reduceEqDiff, reduceCtorEq, Nat.reduceAdd, Nat.reduceLeDiff, Nat.reduceLT, Nat.reduceBEq, Nat.reduceSub, EE.down]
        refine t_idxF (enc := eS) (xs := x1) rfl rfl hxo5 rfl ?_
        simp only [VW.down, Nat.reduceEqDiff, reduceCtorEq, Nat.reduceAdd, Nat.reduceLeDiff, Nat.reduceLT, Nat.reduceBEq, Nat.reduceSub, EE.down]
        obtain ⟨t7, ht7, h⟩ := Option.bind_eq_some_iff.1 h
        refine callX_borF (F38_ok ht7) (by simp only [borAs, bors, hp, List.getElem?_cons_zero, List.getElem?_cons_succ, Option.join_some, List.drop_zero, bor_full', true_and, Nat.zero_add, List.length_map, Nat.le_refl, nrm, List.length_cons, List.length_nil, Nat.reduceAdd, Nat.reduceLeDiff, List.take_succ_cons, List.take_zero, List.take_nil, List.map_cons, List.map_nil, List.length_set, EE.down]) rfl ⟨flat_rows (enc := eS) (fun _ => rfl) _, trivial⟩ ?_
        simp only [VW.down, Nat.reduceEqDiff, reduceCtorEq, Nat.reduceAdd, Nat.reduceLeDiff, Nat.reduceLT, Nat.reduceBEq, Nat.reduceSub, EE.down]
        rw [wrapN (by omega)]
        exact eL' (x1.length - (o5_1 + 1)) [some 1] ⟨o5_1 + 1, t7, ⟨by omega, rfl⟩, rfl, h⟩ (by omega)
      · rw [countN c6, F52_l5] at h
        simp only [VW.down, Nat.reduceEqDiff, reduceCtorEq, Nat.reduceAdd, Nat.reduceLeDiff, Nat.reduceLT, Nat.reduceBEq, Nat.reduceSub, EE.down]
        obtain rfl := Option.some.inj h
        exact eM [some 0] rfl
    · rintro _ rfl
      clear ho
      simp only [VW.down, Nat.reduceEqDiff, reduceCtorEq, Nat.reduceAdd, Nat.reduceLeDiff, Nat.reduceLT, Nat.reduceBEq, Nat.reduceSub, EE.down]
      obtain rfl := Option.some.inj h
      exact eF [some 0]

/- orchestrator/orchestratorref31.Add -/
def F23 (x0 : WorkQueue) (x1 : ByteArray) : Option ((List ByteArray) × (List ByteArray) × (List ByteArray) × (List WorkItem) × (List WorkItem)) := (F51 x0).bind fun t1 => (F14 t1.2.1 x1).bind fun t2 => (if t2 = true then (F53 x1).bind fun t4 => (F52 t1.2.2.1 ([x1])).bind fun t5 => some ((t1.1, t1.2.1, t5, t1.2.2.2.1, t1.2.2.2.2)) else (F14 t1.1 x1).bind fun t6 => (if (nb t6) = true then (apI t1.1 ([x1])).bind fun a8 => some ((a8, t1.2.1, t1.2.2.1, t1.2.2.2.1, t1.2.2.2.2)) else some ((t1.1, t1.2.1, t1.2.2.1, t1.2.2.2.1, t1.2.2.2.2))))
def a23 : AFn := ⟨30, [(.cell 4 (some 5))],
 (.seq (.reg [⟨(some 2), none, .box (.t 0), [], (.new [])⟩,
   ⟨(some 4), none, .zbox [.d (.v (.slice none 0 0)), .d (.v (.slice none 0 0)), .d (.v (.slice none 0 0)), .d (.v (.slice none 0 0)), .d (.v (.slice none 0 0))], [], (.new [])⟩])
 (.seq (.reg [⟨(some 6), none, .load (some 5) (.t 2), [], (.new [])⟩,
   ⟨(some 7), none, .call 51 [(.t 6)], [], (.new [])⟩,
   ⟨(some 5), none, .zbox [.d (.v (.slice none 0 0)), .d (.v (.slice none 0 0)), .d (.v (.slice none 0 0)), .d (.v (.slice none 0 0)), .d (.v (.slice none 0 0))], [], (.new [])⟩,
   ⟨none, none, .store 5 (.t 5) (.t 7), [], (.new [])⟩])
 (.seq (.seq (.reg [⟨(some 8), none, .fieldA 1 (.t 5), [], (.new [])⟩,
   ⟨(some 9), none, .load none (.t 8), [], (.new [])⟩,
   ⟨(some 10), none, .mv (.t 1), [], (.new [])⟩,
   ⟨(some 11), none, .call 14 [(.t 9), (.t 10)], [], (.lone [5, 8])⟩])
 (.cond (.t 11)
 (.regd [⟨(some 12), none, .fieldA 2 (.t 5), [], (.new [])⟩,
   ⟨(some 13), none, .load none (.t 12), [0], (.new [])⟩,
   ⟨(some 14), none, .mv (.t 1), [], (.new [])⟩,
   ⟨(some 15), none, .call 53 [(.t 14)], [2], (.lone [5, 12])⟩,
   ⟨(some 16), none, .call 52 [(.t 13), (.t 15)], [0, 1, 2, 3], (.lone [])⟩,
   ⟨(some 17), none, .fieldA 2 (.t 5), [0, 1, 2, 3, 4], (.new [])⟩,
   ⟨none, none, .store 1 (.t 17) (.t 16), [0, 1, 2, 3, 4, 5], (.lone [])⟩])
 (.seq (.reg [⟨(some 18), none, .fieldA 0 (.t 5), [], (.new [])⟩,
   ⟨(some 19), none, .load none (.t 18), [], (.new [])⟩,
   ⟨(some 20), none, .mv (.t 1), [], (.new [])⟩,
   ⟨(some 21), none, .call 14 [(.t 19), (.t 20)], [], (.new [])⟩,
   ⟨(some 22), none, .not (.t 21), [], (.new [])⟩])
 (.cond (.t 22)
 (.reg [⟨(some 23), none, .fieldA 0 (.t 5), [], (.new [])⟩,
   ⟨(some 24), none, .load none (.t 23), [], (.new [])⟩,
   ⟨(some 25), none, .mv (.t 1), [], (.new [])⟩,
   ⟨(some 26), none, .bslice 1 [(.t 25)], [], (.new [])⟩,
   ⟨(some 27), none, .app 1 16 (.t 24) (.t 26), [], (.new [])⟩,
   ⟨(some 28), none, .fieldA 0 (.t 5), [], (.new [])⟩,
   ⟨none, none, .store 1 (.t 28) (.t 27), [], (.new [])⟩])
 .skip))))
 (.seq (.reg [⟨(some 29), none, .load (some 5) (.t 5), [], (.new [])⟩,
   ⟨none, none, .store 5 (.t 4) (.t 29), [], (.lone [5])⟩])
 .ret))))⟩
theorem a23_ok : afn Try.prog 23 = some a23.er := by kernel_rfl
theorem F23_ok {x0 : WorkQueue} {x1 : ByteArray} {r : (List ByteArray) × (List ByteArray) × (List ByteArray) × (List WorkItem) × (List WorkItem)} (h : F23 x0 x1 = some r) : CallD Try.prog 23 [.agg [.d (.sl (x0.Ready.map eS)), .d (.sl (x0.Working.map eS)), .d (.sl (x0.Dirty.map eS)), .d (.sl (x0.Later.map eWorkItem)), .d (.sl (x0.Retries.map eWorkItem))], .c (.d (.v (.string x1)))] [] (tupV [.agg [.own 0 0 0 (r.1.length) none, .own 1 0 0 (r.2.1.length) none, .own 2 0 0 (r.2.2.1.length) none, .own 3 0 0 (r.2.2.2.1.length) none, .own 4 0 0 (r.2.2.2.2.length) none]]) [some (.arr 0 1 (r.1.map eS)), some (.arr 0 1 (r.2.1.map eS)), some (.arr 0 1 (r.2.2.1.map eS)), some (.arr 0 2 (r.2.2.2.1.map eWorkItem)), some (.arr 0 2 (r.2.2.2.2.map eWorkItem))] := by
  refine callS a23_ok (by simp [a23]) ?_
  rw [F23] at h
  simp only [a23, VW.down, Nat.reduceEqDiff, reduceCtorEq, Nat.reduceAdd, Nat.reduceLeDiff, Nat.reduceLT, Nat.reduceBEq, Nat.reduceSub, EE.down]
  obtain ⟨t1, ht1, h⟩ := Option.bind_eq_some_iff.1 h
  refine callX_n [] (F51_ok ht1) ?_ ?_ ?_ ?_ ?_ ?_
  · first | rfl | simp [nrmA, nrmC, nrm, A1.ren, C.ren, rn, List.length_set]
  · simp [liveAll, A1.live, C.live]
  · rfl
  · decide
  · exact trivial
  simp only [VW.down, Nat.reduceEqDiff, reduceCtorEq, Nat.reduceAdd, Nat.reduceLeDiff, Nat.reduceLT, Nat.reduceBEq, Nat.reduceSub, EE.down]
  obtain ⟨t2, ht2, h⟩ := Option.bind_eq_some_iff.1 h
  refine callX_bor (F14_ok ht2) (by simp only [borAs, bors, hp, List.getElem?_cons_zero, List.getElem?_cons_succ, Option.join_some, List.drop_zero, bor_full', true_and, Nat.zero_add, List.length_map, Nat.le_refl, nrm, List.length_cons, List.length_nil, Nat.reduceAdd, Nat.reduceLeDiff, List.take_succ_cons, List.take_zero, List.take_nil, List.map_cons, List.map_nil, List.length_set, EE.down]) rfl ?_
  simp only [VW.down, Nat.reduceEqDiff, reduceCtorEq, Nat.reduceAdd, Nat.reduceLeDiff, Nat.reduceLT, Nat.reduceBEq, Nat.reduceSub, EE.down]
  refine condB (fun c3 => ?_) (fun c3 => ?_)
  · have h := (if_pos c3).symm.trans h
    simp only [VW.down, Nat.reduceEqDiff, reduceCtorEq, Nat.reduceAdd, Nat.reduceLeDiff, Nat.reduceLT, Nat.reduceBEq, Nat.reduceSub, EE.down]
    obtain ⟨t4, ht4, h⟩ := Option.bind_eq_some_iff.1 h
    refine callX_n [] (F53_ok ht4) ?_ ?_ ?_ ?_ ?_ ?_
    · first | rfl | simp [nrmA, nrmC, nrm, A1.ren, C.ren, rn, List.length_set]
    · simp [liveAll, A1.live, C.live]
    · rfl
    · decide
    · exact trivial
    simp only [VW.down, Nat.reduceEqDiff, reduceCtorEq, Nat.reduceAdd, Nat.reduceLeDiff, Nat.reduceLT, Nat.reduceBEq, Nat.reduceSub, EE.down]
    obtain ⟨t5, ht5, h⟩ := Option.bind_eq_some_iff.1 h
    refine callX_borF (F52_ok ht5) (by simp only [borAs, bors, hp, List.getElem?_cons_zero, List.getElem?_cons_succ, Option.join_some, List.drop_zero, bor_full', true_and, Nat.zero_add, List.length_map, Nat.le_refl, nrm, List.length_cons, List.length_nil, Nat.reduceAdd, Nat.reduceLeDiff, List.take_succ_cons, List.take_zero, List.take_nil, List.map_cons, List.map_nil, List.length_set, EE.down]) rfl ⟨flat_rows (enc := eS) (fun _ => rfl) _, trivial⟩ ?_
    simp only [VW.down, Nat.reduceEqDiff, reduceCtorEq, Nat.reduceAdd, Nat.reduceLeDiff, Nat.reduceLT, Nat.reduceBEq, Nat.reduceSub, EE.down]
    obtain rfl := Option.some.inj h
    exact eF [some 2, some 3, some 9, some 5, some 6]
  · have h := (if_neg c3).symm.trans h
    simp only [VW.down, Nat.reduceEqDiff, reduceCtorEq, Nat.reduceAdd, Nat.reduceLeDiff, Nat.reduceLT, Nat.reduceBEq, Nat.reduceSub, EE.down]
    obtain ⟨t6, ht6, h⟩ := Option.bind_eq_some_iff.1 h
    refine callX_bor (F14_ok ht6) (by simp only [borAs, bors, hp, List.getElem?_cons_zero, List.getElem?_cons_succ, Option.join_some, List.drop_zero, bor_full', true_and, Nat.zero_add, List.length_map, Nat.le_refl, nrm, List.length_cons, List.length_nil, Nat.reduceAdd, Nat.reduceLeDiff, List.take_succ_cons, List.take_zero, List.take_nil, List.map_cons, List.map_nil, List.length_set, EE.down]) rfl ?_
    simp only [VW.down, Nat.reduceEqDiff, reduceCtorEq, Nat.reduceAdd, Nat.reduceLeDiff, Nat.reduceLT, Nat.reduceBEq, Nat.reduceSub, EE.down]
    refine condB (fun c7 => ?_) (fun c7 => ?_)
    · have h := (if_pos c7).symm.trans h
      simp only [VW.down, Nat.reduceEqDiff, reduceCtorEq, Nat.reduceAdd, Nat.reduceLeDiff, Nat.reduceLT, Nat.reduceBEq, Nat.reduceSub, EE.down]
      refine t_bslice (enc := eS) (ys := [x1]) rfl rfl (by simp [A1.cells]) rfl ?_
      simp only [VW.down, Nat.reduceEqDiff, reduceCtorEq, Nat.reduceAdd, Nat.reduceLeDiff, Nat.reduceLT, Nat.reduceBEq, Nat.reduceSub, EE.down]
      obtain ⟨a8, ha8, h⟩ := Option.bind_eq_some_iff.1 h
      refine t_app (enc := eS) (xs := t1.1) rfl rfl (by first | rfl | simp only [List.length_set] | exact (clrL_len (slI_len (by assumption))).symm) rfl (rows_full (enc := eS) (by first | rfl | simp only [List.length_set] | exact (clrL_len (slI_len (by assumption))).symm) rfl) ha8 ?_
      simp only [VW.down, Nat.reduceEqDiff, reduceCtorEq, Nat.reduceAdd, Nat.reduceLeDiff, Nat.reduceLT, Nat.reduceBEq, Nat.reduceSub, EE.down]
      obtain rfl := Option.some.inj h
      exact eF [some 2, some 3, some 4, some 5, some 6]
    · have h := (if_neg c7).symm.trans h
      simp only [VW.down, Nat.reduceEqDiff, reduceCtorEq, Nat.reduceAdd, Nat.reduceLeDiff, Nat.reduceLT, Nat.reduceBEq, Nat.reduceSub, EE.down]
      obtain rfl := Option.some.inj h
      exact eF [some 2, some 3, some 4, some 5, some 6]

/- orchestrator/orchestratorref01.Clamp -/
def F54 (x0 : Int) (x1 : Int) (x2 : Int) : Option (Unit) := some (())
def a54 : AFn := ⟨12, [(.tmp 6)],
 (.seq (.reg [⟨(some 6), none, .mv (kI 0), [], (.new [])⟩])
 (.seq (.reg [⟨(some 7), none, .mv (.t 0), [], (.new [])⟩,
   ⟨(some 8), none, .mv (.t 1), [], (.new [])⟩,
   ⟨(some 9), none, .max (.t 7) (.t 8), [], (.new [])⟩,
   ⟨(some 10), none, .mv (.t 2), [], (.new [])⟩,
   ⟨(some 11), none, .min (.t 9) (.t 10), [], (.new [])⟩,
   ⟨(some 6), none, .mv (.t 11), [], (.new [])⟩])
 .ret))⟩
theorem a54_ok : afn Try.prog 54 = some a54.er := by kernel_rfl
theorem F54_ok {x0 : Int} {x1 : Int} {x2 : Int} {r : Unit} (h : F54 x0 x1 x2 = some r) : CallD Try.prog 54 [.c (.d (.v (.int .i64 x0))), .c (.d (.v (.int .i64 x1))), .c (.d (.v (.int .i64 x2)))] [] (tupV [.c (.d (.v (.int .i64 ((if x2 < (if x0 < x1 then x1 else x0) then x2 else (if x0 < x1 then x1 else x0))))))]) [] := by
  refine callS a54_ok (by simp [a54]) ?_
  rw [F54] at h
  simp only [a54, VW.down, Nat.reduceEqDiff, reduceCtorEq, Nat.reduceAdd, Nat.reduceLeDiff, Nat.reduceLT, Nat.reduceBEq, Nat.reduceSub, EE.down]
  obtain rfl := Option.some.inj h
  exact eF []

/- orchestrator/orchestratorref31.number -/
def F55_l1 (x1 : ByteArray) : List WorkItem → Nat → Option ((Int × Bool) ⊕ (Unit))
  | [], o1_0 => some (Sum.inr (()))
  | xo1 :: xs, o1_0 => (if xo1.Key = x1 then (some ((xo1.At, true))).map Sum.inl else F55_l1 x1 xs (o1_0 + 1))
def F55 (x0 : (List WorkItem)) (x1 : ByteArray) : Option (Int × Bool) := (((ck (0 ≤ x0.length ∧ x0.length ≤ 4294967290)).bind fun u4 => F55_l1 x1 x0 0).bind fun o1 => match o1 with | Sum.inl f => some f | Sum.inr po1 => some ((0, false)))
def a55 : AFn := ⟨25, [(.tmp 4), (.tmp 5)],
 (.seq (.reg [⟨(some 4), none, .mv (kI 0), [], (.new [])⟩,
   ⟨(some 5), none, .mv (kB false), [], (.new [])⟩])
 (.seq (.seq (.reg [⟨(some 6), none, .mv (kI 0), [], (.new [])⟩])
 (.sem (.block 0 (.loop (.seq (.seq (.reg [⟨(some 7), none, .mv (.t 6), [], (.new [])⟩,
   ⟨(some 8), none, .mv (.t 0), [], (.new [])⟩,
   ⟨(some 9), none, .len (.t 8), [], (.new [])⟩,
   ⟨(some 10), none, .bin .lss (.t 7) (.t 9), [], (.new [])⟩])
 (.cond (.t 10)
 .skip
 (.exit 0)))
 (.seq (.block 1 (.seq (.reg [⟨(some 13), none, .mv (.t 0), [], (.new [])⟩,
   ⟨(some 14), none, .mv (.t 6), [], (.new [])⟩,
   ⟨(some 15), none, .indexA 2 (.t 13) (.t 14), [], (.new [])⟩,
   ⟨(some 16), none, .fieldA 0 (.t 15), [], (.new [])⟩,
   ⟨(some 17), none, .load none (.t 16), [], (.new [])⟩,
   ⟨(some 18), none, .mv (.t 1), [], (.new [])⟩,
   ⟨(some 19), none, .bin .eql (.t 17) (.t 18), [], (.new [])⟩])
 (.cond (.t 19)
 (.seq (.reg [⟨(some 20), none, .mv (.t 0), [], (.new [])⟩,
   ⟨(some 21), none, .mv (.t 6), [], (.new [])⟩,
   ⟨(some 22), none, .indexA 2 (.t 20) (.t 21), [], (.new [])⟩,
   ⟨(some 23), none, .fieldA 1 (.t 22), [], (.new [])⟩,
   ⟨(some 24), none, .load none (.t 23), [], (.new [])⟩,
   ⟨(some 4), none, .mv (.t 24), [], (.new [])⟩,
   ⟨(some 5), none, .mv (kB true), [], (.new [])⟩])
 .ret)
 .skip)))
 (.reg [⟨(some 11), none, .mv (.t 6), [], (.new [])⟩,
   ⟨(some 12), none, .bin .add (.t 11) (kI 1), [], (.new [])⟩,
   ⟨(some 6), none, .mv (.t 12), [], (.new [])⟩])))))))
 (.seq (.reg [⟨(some 4), none, .mv (kI 0), [], (.new [])⟩,
   ⟨(some 5), none, .mv (kB false), [], (.new [])⟩])
 .ret)))⟩
theorem a55_ok : afn Try.prog 55 = some a55.er := by kernel_rfl
theorem F55_ok {x0 : (List WorkItem)} {x1 : ByteArray} {r : Int × Bool} (h : F55 x0 x1 = some r) : CallD Try.prog 55 [.c (.d (.sl (x0.map eWorkItem))), .c (.d (.v (.string x1)))] [] (tupV [.c (.d (.v (.int .i64 r.1))), .c (.d (.v (.bool r.2)))]) [] := by
  refine callS a55_ok (by simp [a55]) ?_
  rw [F55] at h
  simp only [a55, VW.down, Nat.reduceEqDiff, reduceCtorEq, Nat.reduceAdd, Nat.reduceLeDiff, Nat.reduceLT, Nat.reduceBEq, Nat.reduceSub, EE.down]
  obtain ⟨o1, ho, h⟩ := Option.bind_eq_some_iff.1 h
  refine cutS (fun s => ∃ po1, o1 = Sum.inr po1 ∧ s = ⟨[], []⟩) ?_ ?_
  · have h0o1 := h
    have h := ho
    clear ho
    obtain ⟨_, hk, h⟩ := Option.bind_eq_some_iff.1 h
    have hk := ck_some hk
    simp only [VW.down, Nat.reduceEqDiff, reduceCtorEq, Nat.reduceAdd, Nat.reduceLeDiff, Nat.reduceLT, Nat.reduceBEq, Nat.reduceSub, EE.down]
    refine bL (fun j s => ∃ (o1_0 : Nat), (o1_0 ≤ x0.length ∧ j = x0.length - o1_0) ∧ s = ⟨[(0, .one (.c (.d (.sl (x0.map eWorkItem))))), (1, .one (.c (.d (.v (.string x1))))), (6, .one (.c (.d (.v (.int .i64 ((o1_0 : Int)))))))], []⟩ ∧ F55_l1 x1 (x0.drop o1_0) o1_0 = some o1) (x0.length - 0) [] ⟨0, ⟨hk.1, rfl⟩, rfl, h⟩ ?_
    rintro _ _ ⟨o1_0, ⟨hi, rfl⟩, rfl, h⟩
    simp only [VW.down, Nat.reduceEqDiff, reduceCtorEq, Nat.reduceAdd, Nat.reduceLeDiff, Nat.reduceLT, Nat.reduceBEq, Nat.reduceSub, EE.down]
    refine condS (fun c2 => ?_) (fun c2 => ?_)
    · obtain ⟨xo1, hxo1, hd⟩ := countY c2
      rw [hd, F55_l1] at h
      simp only [VW.down, Nat.reduceEqDiff, reduceCtorEq, Nat.reduceAdd, Nat.reduceLeDiff, Nat.reduceLT, Nat.reduceBEq, Nat.reduceSub, EE.down]
      refine t_idxF (enc := eWorkItem) (xs := x0) rfl rfl hxo1 rfl ?_
      simp only [VW.down, Nat.reduceEqDiff, reduceCtorEq, Nat.reduceAdd, Nat.reduceLeDiff, Nat.reduceLT, Nat.reduceBEq, Nat.reduceSub, EE.down]
      refine condS (fun c3 => ?_) (fun c3 => ?_)
      · have h := (if_pos c3).symm.trans h
        simp only [VW.down, Nat.reduceEqDiff, reduceCtorEq, Nat.reduceAdd, Nat.reduceLeDiff, Nat.reduceLT, Nat.reduceBEq, Nat.reduceSub, EE.down]
        refine t_idxF (enc := eWorkItem) (xs := x0) rfl rfl hxo1 rfl ?_
        simp only [VW.down, Nat.reduceEqDiff, reduceCtorEq, Nat.reduceAdd, Nat.reduceLeDiff, Nat.reduceLT, Nat.reduceBEq, Nat.reduceSub, EE.down]
        obtain ⟨fh0o1, hfh0o1, rfl⟩ := Option.map_eq_some_iff.1 h
        have h := hfh0o1.trans h0o1
        obtain rfl := Option.some.inj h
        exact eF []
      · have h := (if_neg c3).symm.trans h
        simp only [VW.down, Nat.reduceEqDiff, reduceCtorEq, Nat.reduceAdd, Nat.reduceLeDiff, Nat.reduceLT, Nat.reduceBEq, Nat.reduceSub, EE.down]
        rw [wrapN (by omega)]
        exact eL' (x0.length - (o1_0 + 1)) [] ⟨o1_0 + 1, ⟨by omega, rfl⟩, rfl, h⟩ (by omega)
    · rw [countN c2, F55_l1] at h
      simp only [VW.down, Nat.reduceEqDiff, reduceCtorEq, Nat.reduceAdd, Nat.reduceLeDiff, Nat.reduceLT, Nat.reduceBEq, Nat.reduceSub, EE.down]
      obtain rfl := Option.some.inj h
      exact eM [] ⟨_, rfl, rfl⟩
  · rintro _ ⟨po1, rfl, rfl⟩
    clear ho
    dsimp only at h
    simp only [VW.down, Nat.reduceEqDiff, reduceCtorEq, Nat.reduceAdd, Nat.reduceLeDiff, Nat.reduceLT, Nat.reduceBEq, Nat.reduceSub, EE.down]
    obtain rfl := Option.some.inj h
    exact eF []

/- orchestrator/orchestratorref31.without -/
def F57_l1 (x1 : ByteArray) : List WorkItem → Nat → (List WorkItem) → Option ((List WorkItem))
  | [], o1_1, o1_0 => some o1_0
  | xo1 :: xs, o1_1, o1_0 => (((if ¬ (xo1.Key = x1) then (apI o1_0 ([xo1])).bind fun a5 => some a5 else some o1_0)).bind fun o3 => F57_l1 x1 xs (o1_1 + 1) o3)
def F57 (x0 : (List WorkItem)) (x1 : ByteArray) : Option ((List WorkItem)) := (((ck (0 ≤ x0.length ∧ x0.length ≤ 4294967290)).bind fun u6 => F57_l1 x1 x0 0 ([])).bind fun o1 => some o1)
def a57 : AFn := ⟨28, [(.tmp 4)],
 (.seq (.reg [⟨(some 4), none, .mv kN, [], (.new [])⟩])
 (.seq (.reg [⟨(some 5), none, .mv kN, [], (.new [])⟩])
 (.seq (.seq (.reg [⟨(some 6), none, .mv (kI 0), [], (.new [])⟩])
 (.sem (.block 0 (.loop (.seq (.seq (.reg [⟨(some 7), none, .mv (.t 6), [], (.new [])⟩,
   ⟨(some 8), none, .mv (.t 0), [], (.new [])⟩,
   ⟨(some 9), none, .len (.t 8), [], (.new [])⟩,
   ⟨(some 10), none, .bin .lss (.t 7) (.t 9), [], (.new [])⟩])
 (.cond (.t 10)
 .skip
 (.exit 0)))
 (.seq (.sem (.block 1 (.seq (.reg [⟨(some 13), none, .mv (.t 0), [], (.new [])⟩,
   ⟨(some 14), none, .mv (.t 6), [], (.new [])⟩,
   ⟨(some 15), none, .indexA 2 (.t 13) (.t 14), [], (.new [])⟩,
   ⟨(some 16), none, .fieldA 0 (.t 15), [], (.new [])⟩,
   ⟨(some 17), none, .load none (.t 16), [], (.new [])⟩,
   ⟨(some 18), none, .mv (.t 1), [], (.new [])⟩,
   ⟨(some 19), none, .bin .neq (.t 17) (.t 18), [], (.new [])⟩])
 (.cond (.t 19)
 (.reg [⟨(some 20), none, .mv (.t 5), [], (.new [])⟩,
   ⟨(some 21), none, .mv (.t 0), [], (.new [])⟩,
   ⟨(some 22), none, .mv (.t 6), [], (.new [])⟩,
   ⟨(some 23), none, .indexA 2 (.t 21) (.t 22), [], (.new [])⟩,
   ⟨(some 24), none, .load (some 2) (.t 23), [], (.new [])⟩,
   ⟨(some 25), none, .bslice 2 [(.t 24)], [], (.new [])⟩,
   ⟨(some 26), none, .app 2 24 (.t 20) (.t 25), [], (.new [])⟩,
   ⟨(some 5), none, .mv (.t 26), [], (.new [])⟩])
 .skip))))
 (.reg [⟨(some 11), none, .mv (.t 6), [], (.new [])⟩,
   ⟨(some 12), none, .bin .add (.t 11) (kI 1), [], (.new [])⟩,
   ⟨(some 6), none, .mv (.t 12), [], (.new [])⟩])))))))
 (.seq (.reg [⟨(some 27), none, .mv (.t 5), [], (.new [])⟩,
   ⟨(some 4), none, .mv (.t 27), [], (.new [])⟩])
 .ret))))⟩
theorem a57_ok : afn Try.prog 57 = some a57.er := by kernel_rfl
theorem F57_ok {x0 : (List WorkItem)} {x1 : ByteArray} {r : (List WorkItem)} (h : F57 x0 x1 = some r) : CallD Try.prog 57 [.c (.d (.sl (x0.map eWorkItem))), .c (.d (.v (.string x1)))] [] (tupV [.c (.own 0 0 0 (r.length) none)]) [some (.arr 0 2 (r.map eWorkItem))] := by
  refine callS a57_ok (by simp [a57]) ?_
  rw [F57] at h
  simp only [a57, VW.down, Nat.reduceEqDiff, reduceCtorEq, Nat.reduceAdd, Nat.reduceLeDiff, Nat.reduceLT, Nat.reduceBEq, Nat.reduceSub, EE.down]
  obtain ⟨o1, ho, h⟩ := Option.bind_eq_some_iff.1 h
  refine cutS (fun s => s = ⟨[(5, .one (.c (.own 0 0 0 (o1.length) none)))], [some (.arr 0 2 (o1.map eWorkItem))]⟩) ?_ ?_
  · have h := ho
    clear ho
    obtain ⟨_, hk, h⟩ := Option.bind_eq_some_iff.1 h
    have hk := ck_some hk
    simp only [VW.down, Nat.reduceEqDiff, reduceCtorEq, Nat.reduceAdd, Nat.reduceLeDiff, Nat.reduceLT, Nat.reduceBEq, Nat.reduceSub, EE.down]
    refine bL (fun j s => ∃ (o1_1 : Nat) (o1_0 : List WorkItem), (o1_1 ≤ x0.length ∧ j = x0.length - o1_1) ∧ s = ⟨[(0, .one (.c (.d (.sl (x0.map eWorkItem))))), (1, .one (.c (.d (.v (.string x1))))), (5, .one (.c (.own 0 0 0 (o1_0.length) none))), (6, .one (.c (.d (.v (.int .i64 ((o1_1 : Int)))))))], [some (.arr 0 2 (o1_0.map eWorkItem))]⟩ ∧ F57_l1 x1 (x0.drop o1_1) o1_1 o1_0 = some o1) (x0.length - 0) [none] ⟨0, [], ⟨hk.1, rfl⟩, rfl, h⟩ ?_
    rintro _ _ ⟨o1_1, o1_0, ⟨hi, rfl⟩, rfl, h⟩
    simp only [VW.down, Nat.reduceEqDiff, reduceCtorEq, Nat.reduceAdd, Nat.reduceLeDiff, Nat.reduceLT, Nat.reduceBEq, Nat.reduceSub, EE.down]
    refine condS (fun c2 => ?_) (fun c2 => ?_)
    · obtain ⟨xo1, hxo1, hd⟩ := countY c2
      rw [hd, F57_l1] at h
      simp only [VW.down, Nat.reduceEqDiff, reduceCtorEq, Nat.reduceAdd, Nat.reduceLeDiff, Nat.reduceLT, Nat.reduceBEq, Nat.reduceSub, EE.down]
      obtain ⟨o3, ho, h⟩ := Option.bind_eq_some_iff.1 h
      refine cutS (fun s => s = ⟨[(0, .one (.c (.d (.sl (x0.map eWorkItem))))), (1, .one (.c (.d (.v (.string x1))))), (5, .one (.c (.own 0 0 0 (o3.length) none))), (6, .one (.c (.d (.v (.int .i64 ((o1_1 : Int)))))))], [some (.arr 0 2 (o3.map eWorkItem))]⟩) ?_ ?_
      · have h := ho
        clear ho
        simp only [VW.down, Nat.reduceEqDiff, reduceCtorEq, Nat.reduceAdd, Nat.reduceLeDiff, Nat.reduceLT, Nat.reduceBEq, Nat.reduceSub, EE.down]
        refine t_idxF (enc := eWorkItem) (xs := x0) rfl rfl hxo1 rfl ?_
        simp only [VW.down, Nat.reduceEqDiff, reduceCtorEq, Nat.reduceAdd, Nat.reduceLeDiff, Nat.reduceLT, Nat.reduceBEq, Nat.reduceSub, EE.down]
        refine condS (fun c4 => ?_) (fun c4 => ?_)
        · have h := (if_pos c4).symm.trans h
          simp only [VW.down, Nat.reduceEqDiff, reduceCtorEq, Nat.reduceAdd, Nat.reduceLeDiff, Nat.reduceLT, Nat.reduceBEq, Nat.reduceSub, EE.down]
          refine t_idxF (enc := eWorkItem) (xs := x0) rfl rfl hxo1 rfl ?_
          simp only [VW.down, Nat.reduceEqDiff, reduceCtorEq, Nat.reduceAdd, Nat.reduceLeDiff, Nat.reduceLT, Nat.reduceBEq, Nat.reduceSub, EE.down]
          refine t_bslice (enc := eWorkItem) (ys := [xo1]) rfl rfl (by simp [A1.cells]) rfl ?_
          simp only [VW.down, Nat.reduceEqDiff, reduceCtorEq, Nat.reduceAdd, Nat.reduceLeDiff, Nat.reduceLT, Nat.reduceBEq, Nat.reduceSub, EE.down]
          obtain ⟨a5, ha5, h⟩ := Option.bind_eq_some_iff.1 h
          refine t_app (enc := eWorkItem) (xs := o1_0) rfl rfl (by first | rfl | simp only [List.length_set] | exact (clrL_len (slI_len (by assumption))).symm) rfl (rows_full (enc := eWorkItem) (by first | rfl | simp only [List.length_set] | exact (clrL_len (slI_len (by assumption))).symm) rfl) ha5 ?_
          simp only [VW.down, Nat.reduceEqDiff, reduceCtorEq, Nat.reduceAdd, Nat.reduceLeDiff, Nat.reduceLT, Nat.reduceBEq, Nat.reduceSub, EE.down]
          obtain rfl := Option.some.inj h
          exact eM [some 0] rfl
        · have h := (if_neg c4).symm.trans h
          simp only [VW.down, Nat.reduceEqDiff, reduceCtorEq, Nat.reduceAdd, Nat.reduceLeDiff, Nat.reduceLT, Nat.reduceBEq, Nat.reduceSub, EE.down]
          obtain rfl := Option.some.inj h
          exact eM [some 0] rfl
      · rintro _ rfl
        clear ho
        simp only [VW.down, Nat.reduceEqDiff, reduceCtorEq, Nat.reduceAdd, Nat.reduceLeDiff, Nat.reduceLT, Nat.reduceBEq, Nat.reduceSub, EE.down]
        rw [wrapN (by omega)]
        exact eL' (x0.length - (o1_1 + 1)) [some 0] ⟨o1_1 + 1, o3, ⟨by omega, rfl⟩, rfl, h⟩ (by omega)
    · rw [countN c2, F57_l1] at h
      simp only [VW.down, Nat.reduceEqDiff, reduceCtorEq, Nat.reduceAdd, Nat.reduceLeDiff, Nat.reduceLT, Nat.reduceBEq, Nat.reduceSub, EE.down]
      obtain rfl := Option.some.inj h
      exact eM [some 0] rfl
  · rintro _ rfl
    clear ho
    simp only [VW.down, Nat.reduceEqDiff, reduceCtorEq, Nat.reduceAdd, Nat.reduceLeDiff, Nat.reduceLT, Nat.reduceBEq, Nat.reduceSub, EE.down]
    obtain rfl := Option.some.inj h
    exact eF [some 0]

/- orchestrator/orchestratorref31.insert -/
def F56_l3 (x2 : Bool) : Nat → (List WorkItem) → Int → Option ((List WorkItem))
  | 0, _, _ => none
  | k + 1, o3_0, o3_1 => (if 0 < o3_1 then (rdI o3_0 ((IntKind.i64.wrap (o3_1 - 1)))).bind fun y5 => (rdI o3_0 o3_1).bind fun y6 => (((if x2 = true then (if y5.At < y6.At then some true else (if y5.At = y6.At then (if (Op.bytesLess y5.Key.toList y6.Key.toList) = true then some true else (if (nb x2) = true then some (Op.bytesLess y5.Key.toList y6.Key.toList) else some false)) else (if (nb x2) = true then some (Op.bytesLess y5.Key.toList y6.Key.toList) else some false))) else (if (nb x2) = true then some (Op.bytesLess y5.Key.toList y6.Key.toList) else some false))).bind fun o7 => (if o7 = true then some o3_0 else (rdI o3_0 ((IntKind.i64.wrap (o3_1 - 1)))).bind fun y16 => (rdI ((o3_0.set ((IntKind.i64.wrap (o3_1 - 1))).toNat y6)) o3_1).bind fun y17 => F56_l3 x2 k ((((o3_0.set ((IntKind.i64.wrap (o3_1 - 1))).toNat y6)).set o3_1.toNat y5)) ((IntKind.i64.wrap (o3_1 - 1))))) else some o3_0)
def F56 (x0 : (List WorkItem)) (x1 : WorkItem) (x2 : Bool) : Option ((List WorkItem)) := (apI ([] : List WorkItem) x0).bind fun a1 => (apI a1 ([x1])).bind fun a2 => ((F56_l3 x2 1099511627776 a2 ((IntKind.i64.wrap (((a2.length : Int)) - 1)))).bind fun o3 => some o3)
def a56 : AFn := ⟨77, [(.tmp 6)],
 (.seq (.reg [⟨(some 4), none, .box (.t 1), [], (.new [])⟩,
   ⟨(some 6), none, .mv kN, [], (.new [])⟩])
 (.seq (.reg [⟨(some 11), none, .bslice 2 [], [], (.new [])⟩,
   ⟨(some 12), none, .mv (.t 0), [], (.new [])⟩,
   ⟨(some 13), none, .app 2 24 (.t 11) (.t 12), [], (.new [])⟩,
   ⟨(some 7), none, .mv (.t 13), [], (.new [])⟩])
 (.seq (.reg [⟨(some 14), none, .mv (.t 7), [], (.new [])⟩,
   ⟨(some 15), none, .load (some 2) (.t 4), [], (.new [])⟩,
   ⟨(some 16), none, .bslice 2 [(.t 15)], [], (.new [])⟩,
   ⟨(some 17), none, .app 2 24 (.t 14) (.t 16), [], (.new [])⟩,
   ⟨(some 7), none, .mv (.t 17), [], (.new [])⟩])
 (.seq (.seq (.reg [⟨(some 18), none, .mv (.t 7), [], (.new [])⟩,
   ⟨(some 19), none, .len (.t 18), [], (.new [])⟩,
   ⟨(some 20), none, .bin .sub (.t 19) (kI 1), [], (.new [])⟩,
   ⟨(some 8), none, .mv (.t 20), [], (.new [])⟩])
 (.sem (.block 0 (.loop (.seq (.seq (.reg [⟨(some 21), none, .mv (.t 8), [], (.new [])⟩,
   ⟨(some 22), none, .bin .gtr (.t 21) (kI 0), [], (.new [])⟩])
 (.cond (.t 22)
 .skip
 (.exit 0)))
 (.seq (.block 1 (.seq (.regd [⟨(some 25), none, .mv (.t 7), [], (.new [])⟩,
   ⟨(some 26), none, .mv (.t 8), [], (.new [])⟩,
   ⟨(some 27), none, .bin .sub (.t 26) (kI 1), [1], (.new [])⟩,
   ⟨(some 28), none, .indexA 2 (.t 25) (.t 27), [0, 1, 2], (.new [])⟩,
   ⟨(some 29), none, .load (some 2) (.t 28), [0, 1, 2, 3], (.new [])⟩,
   ⟨(some 30), none, .mv (.t 7), [], (.new [])⟩,
   ⟨(some 31), none, .mv (.t 8), [], (.new [])⟩,
   ⟨(some 32), none, .indexA 2 (.t 30) (.t 31), [5, 6], (.new [])⟩,
   ⟨(some 33), none, .load (some 2) (.t 32), [5, 6, 7], (.new [])⟩,
   ⟨(some 9), none, .zbox [.d (.v (.string ⟨#[]⟩)), .d (.v (.int .i64 0))], [], (.new [])⟩,
   ⟨(some 10), none, .zbox [.d (.v (.string ⟨#[]⟩)), .d (.v (.int .i64 0))], [], (.new [])⟩,
   ⟨none, none, .store 2 (.t 9) (.t 29), [0, 1, 2, 3, 4, 9, 10], (.lone [30, 32])⟩,
   ⟨none, none, .store 2 (.t 10) (.t 33), [0, 1, 2, 3, 4, 5, 6, 7, 8, 9, 10, 11], (.lone [])⟩])
 (.seq (.seq (.sem (.reg [⟨(some 34), none, .mv (.t 2), [], (.new [])⟩,
   ⟨(some 35), none, .mv (.t 34), [], (.new [])⟩,
   ⟨(some 36), (some (35, true)), .fieldA 1 (.t 9), [], (.new [])⟩,
   ⟨(some 37), (some (35, true)), .load none (.t 36), [], (.new [])⟩,
   ⟨(some 38), (some (35, true)), .fieldA 1 (.t 10), [], (.new [])⟩,
   ⟨(some 39), (some (35, true)), .load none (.t 38), [], (.new [])⟩,
   ⟨(some 40), (some (35, true)), .bin .lss (.t 37) (.t 39), [], (.new [])⟩,
   ⟨(some 41), (some (35, true)), .mv (.t 40), [], (.new [])⟩,
   ⟨(some 42), (some (41, false)), .fieldA 1 (.t 9), [], (.new [])⟩,
   ⟨(some 43), (some (41, false)), .load none (.t 42), [], (.new [])⟩,
   ⟨(some 44), (some (41, false)), .fieldA 1 (.t 10), [], (.new [])⟩,
   ⟨(some 45), (some (41, false)), .load none (.t 44), [], (.new [])⟩,
   ⟨(some 46), (some (41, false)), .bin .eql (.t 43) (.t 45), [], (.new [])⟩,
   ⟨(some 47), (some (41, false)), .mv (.t 46), [], (.new [])⟩,
   ⟨(some 48), (some (47, true)), .fieldA 0 (.t 9), [], (.new [])⟩,
   ⟨(some 49), (some (47, true)), .load none (.t 48), [], (.new [])⟩,
   ⟨(some 50), (some (47, true)), .fieldA 0 (.t 10), [], (.new [])⟩,
   ⟨(some 51), (some (47, true)), .load none (.t 50), [], (.new [])⟩,
   ⟨(some 52), (some (47, true)), .bin .lss (.t 49) (.t 51), [], (.new [])⟩,
   ⟨(some 53), (some (41, false)), .pick (.t 47) (.t 52) (kB false), [], (.new [])⟩,
   ⟨(some 54), (some (35, true)), .pick (.t 41) (kB true) (.t 53), [], (.new [])⟩,
   ⟨(some 55), none, .pick (.t 35) (.t 54) (kB false), [], (.new [])⟩,
   ⟨(some 56), none, .mv (.t 55), [], (.new [])⟩,
   ⟨(some 57), (some (56, false)), .mv (.t 2), [], (.new [])⟩,
   ⟨(some 58), (some (56, false)), .not (.t 57), [], (.new [])⟩,
   ⟨(some 59), (some (56, false)), .mv (.t 58), [], (.new [])⟩,
   ⟨(some 60), (some (59, true)), .fieldA 0 (.t 9), [], (.new [])⟩,
   ⟨(some 61), (some (59, true)), .load none (.t 60), [], (.new [])⟩,
   ⟨(some 62), (some (59, true)), .fieldA 0 (.t 10), [], (.new [])⟩,
   ⟨(some 63), (some (59, true)), .load none (.t 62), [], (.new [])⟩,
   ⟨(some 64), (some (59, true)), .bin .lss (.t 61) (.t 63), [], (.new [])⟩,
   ⟨(some 65), (some (56, false)), .pick (.t 59) (.t 64) (kB false), [], (.new [])⟩,
   ⟨(some 66), none, .pick (.t 56) (kB true) (.t 65), [], (.new [])⟩]))
 (.cond (.t 66)
 (.exit 0)
 .skip))
 (.seq (.reg [⟨(some 67), none, .mv (.t 7), [], (.new [])⟩,
   ⟨(some 68), none, .mv (.t 8), [], (.new [])⟩,
   ⟨(some 69), none, .bin .sub (.t 68) (kI 1), [], (.new [])⟩,
   ⟨(some 70), none, .load (some 2) (.t 10), [], (.new [])⟩,
   ⟨(some 71), none, .indexA 2 (.t 67) (.t 69), [], (.new [])⟩,
   ⟨none, none, .store 2 (.t 71) (.t 70), [], (.lone [10, 67])⟩])
 (.reg [⟨(some 72), none, .mv (.t 7), [], (.new [])⟩,
   ⟨(some 73), none, .mv (.t 8), [], (.new [])⟩,
   ⟨(some 74), none, .load (some 2) (.t 9), [], (.new [])⟩,
   ⟨(some 75), none, .indexA 2 (.t 72) (.t 73), [], (.new [])⟩,
   ⟨none, none, .store 2 (.t 75) (.t 74), [], (.lone [9, 72])⟩])))))
 (.reg [⟨(some 23), none, .mv (.t 8), [], (.new [])⟩,
   ⟨(some 24), none, .bin .sub (.t 23) (kI 1), [], (.new [])⟩,
   ⟨(some 8), none, .mv (.t 24), [], (.new [])⟩])))))))
 (.seq (.reg [⟨(some 76), none, .mv (.t 7), [], (.new [])⟩,
   ⟨(some 6), none, .mv (.t 76), [], (.new [])⟩])
 .ret)))))⟩
theorem a56_ok : afn Try.prog 56 = some a56.er := by kernel_rfl
theorem F56_ok {x0 : (List WorkItem)} {x1 : WorkItem} {x2 : Bool} {r : (List WorkItem)} (h : F56 x0 x1 x2 = some r) : CallD Try.prog 56 [.c (.d (.sl (x0.map eWorkItem))), .agg [.d (.v (.string x1.Key)), .d (.v (.int .i64 x1.At))], .c (.d (.v (.bool x2)))] [] (tupV [.c (.own 0 0 0 (r.length) none)]) [some (.arr 0 2 (r.map eWorkItem))] := by
  refine callS a56_ok (by simp [a56]) ?_
  rw [F56] at h
  simp only [a56, VW.down, Nat.reduceEqDiff, reduceCtorEq, Nat.reduceAdd, Nat.reduceLeDiff, Nat.reduceLT, Nat.reduceBEq, Nat.reduceSub, EE.down]
  refine t_bslice (enc := eWorkItem) (ys := ([] : List WorkItem)) rfl rfl (by simp [A1.cells]) rfl ?_
  simp only [VW.down, Nat.reduceEqDiff, reduceCtorEq, Nat.reduceAdd, Nat.reduceLeDiff, Nat.reduceLT, Nat.reduceBEq, Nat.reduceSub, EE.down]
  obtain ⟨a1, ha1, h⟩ := Option.bind_eq_some_iff.1 h
  refine t_app (enc := eWorkItem) (xs := ([] : List WorkItem)) rfl rfl (by first | rfl | simp only [List.length_set] | exact (clrL_len (slI_len (by assumption))).symm) rfl (rows_frz (enc := eWorkItem) fun _ => rfl) ha1 ?_
  simp only [VW.down, Nat.reduceEqDiff, reduceCtorEq, Nat.reduceAdd, Nat.reduceLeDiff, Nat.reduceLT, Nat.reduceBEq, Nat.reduceSub, EE.down]
  refine t_bslice (enc := eWorkItem) (ys := [x1]) rfl rfl (by simp [A1.cells]) rfl ?_
  simp only [VW.down, Nat.reduceEqDiff, reduceCtorEq, Nat.reduceAdd, Nat.reduceLeDiff, Nat.reduceLT, Nat.reduceBEq, Nat.reduceSub, EE.down]
  obtain ⟨a2, ha2, h⟩ := Option.bind_eq_some_iff.1 h
  refine t_app (enc := eWorkItem) (xs := a1) rfl rfl (by first | rfl | simp only [List.length_set] | exact (clrL_len (slI_len (by assumption))).symm) rfl (rows_full (enc := eWorkItem) (by first | rfl | simp only [List.length_set] | exact (clrL_len (slI_len (by assumption))).symm) rfl) ha2 ?_
  simp only [VW.down, Nat.reduceEqDiff, reduceCtorEq, Nat.reduceAdd, Nat.reduceLeDiff, Nat.reduceLT, Nat.reduceBEq, Nat.reduceSub, EE.down]
  obtain ⟨o3, ho, h⟩ := Option.bind_eq_some_iff.1 h
  refine cutS (fun s => s = ⟨[(7, .one (.c (.own 0 0 0 (o3.length) none)))], [some (.arr 0 2 (o3.map eWorkItem))]⟩) ?_ ?_
  · have h := ho
    clear ho
    simp only [VW.down, Nat.reduceEqDiff, reduceCtorEq, Nat.reduceAdd, Nat.reduceLeDiff, Nat.reduceLT, Nat.reduceBEq, Nat.reduceSub, EE.down]
    refine bL (fun j s => ∃ (o3_0 : List WorkItem) (o3_1 : Int), s = ⟨[(2, .one (.c (.d (.v (.bool x2))))), (7, .one (.c (.own 0 0 0 (o3_0.length) none))), (8, .one (.c (.d (.v (.int .i64 o3_1)))))], [some (.arr 0 2 (o3_0.map eWorkItem))]⟩ ∧ F56_l3 x2 j o3_0 o3_1 = some o3) 1099511627776 [some 1] ⟨a2, (IntKind.i64.wrap (((a2.length : Int)) - 1)), rfl, h⟩ ?_
    rintro j _ ⟨o3_0, o3_1, rfl, h⟩
    cases j with
    | zero => cases (show (none : Option _) = some _ from h)
    | succ j =>
      rw [F56_l3] at h
      simp only [VW.down, Nat.reduceEqDiff, reduceCtorEq, Nat.reduceAdd, Nat.reduceLeDiff, Nat.reduceLT, Nat.reduceBEq, Nat.reduceSub, EE.down]
      refine condS (fun c4 => ?_) (fun c4 => ?_)
      · have h := (if_pos c4).symm.trans h
        simp only [VW.down, Nat.reduceEqDiff, reduceCtorEq, Nat.reduceAdd, Nat.reduceLeDiff, Nat.reduceLT, Nat.reduceBEq, Nat.reduceSub, EE.down]
        obtain ⟨y5, hy5, h⟩ := Option.bind_eq_some_iff.1 h
        refine t_idxO (enc := eWorkItem) (xs := o3_0) rfl rfl rfl (by first | rfl | simp only [List.length_set] | exact (clrL_len (slI_len (by assumption))).symm) hy5 ?_
        simp only [VW.down, Nat.reduceEqDiff, reduceCtorEq, Nat.reduceAdd, Nat.reduceLeDiff, Nat.reduceLT, Nat.reduceBEq, Nat.reduceSub, EE.down]
        refine LdRow.rd (rdI_some hy5).2.1 ?_
        simp only [VW.down, Nat.reduceEqDiff, reduceCtorEq, Nat.reduceAdd, Nat.reduceLeDiff, Nat.reduceLT, Nat.reduceBEq, Nat.reduceSub, EE.down]
        obtain ⟨y6, hy6, h⟩ := Option.bind_eq_some_iff.1 h
        refine t_idxO (enc := eWorkItem) (xs := o3_0) rfl rfl rfl (by first | rfl | simp only [List.length_set] | exact (clrL_len (slI_len (by assumption))).symm) hy6 ?_
        simp only [VW.down, Nat.reduceEqDiff, reduceCtorEq, Nat.reduceAdd, Nat.reduceLeDiff, Nat.reduceLT, Nat.reduceBEq, Nat.reduceSub, EE.down]
        refine LdRow.rd (rdI_some hy6).2.1 ?_
        simp only [VW.down, Nat.reduceEqDiff, reduceCtorEq, Nat.reduceAdd, Nat.reduceLeDiff, Nat.reduceLT, Nat.reduceBEq, Nat.reduceSub, EE.down]
        refine kD_new (by simp [wrs, allW, hset]) ?_
        simp only [VW.down, Nat.reduceEqDiff, reduceCtorEq, Nat.reduceAdd, Nat.reduceLeDiff, Nat.reduceLT, Nat.reduceBEq, Nat.reduceSub, EE.down]
        refine kD_new (by simp [wrs, allW, hset]) ?_
        simp only [VW.down, Nat.reduceEqDiff, reduceCtorEq, Nat.reduceAdd, Nat.reduceLeDiff, Nat.reduceLT, Nat.reduceBEq, Nat.reduceSub, EE.down]
        obtain ⟨o7, ho, h⟩ := Option.bind_eq_some_iff.1 h
        refine cutS (fun s => s = ⟨[(2, .one (.c (.d (.v (.bool x2))))), (7, .one (.c (.own 0 0 0 (o3_0.length) none))), (8, .one (.c (.d (.v (.int .i64 o3_1))))), (9, .one (.c (.pt 1 0))), (10, .one (.c (.pt 2 0))), (66, .one (.c (.d (.v (.bool o7)))))], [some (.arr 0 2 (o3_0.map eWorkItem)), some (.box [.d (.v (.string y5.Key)), .d (.v (.int .i64 y5.At))]), some (.box [.d (.v (.string y6.Key)), .d (.v (.int .i64 y6.At))])]⟩) ?_ ?_
        · have h := ho
          clear ho
          simp only [VW.down, Nat.reduceEqDiff, reduceCtorEq, Nat.reduceAdd, Nat.reduceLeDiff, Nat.reduceLT, Nat.reduceBEq, Nat.reduceSub, EE.down]
          refine guardSB (fun g8 => ?_) (fun g8 => ?_)
          · have h := (if_pos g8).symm.trans h
            simp only [VW.down, Nat.reduceEqDiff, reduceCtorEq, Nat.reduceAdd, Nat.reduceLeDiff, Nat.reduceLT, Nat.reduceBEq, Nat.reduceSub, EE.down]
            refine guardS (fun g9 => ?_) (fun g9 => ?_)
            · have h := (if_pos g9).symm.trans h
              simp only [VW.down, Nat.reduceEqDiff, reduceCtorEq, Nat.reduceAdd, Nat.reduceLeDiff, Nat.reduceLT, Nat.reduceBEq, Nat.reduceSub, EE.down]
              obtain rfl := Option.some.inj h
              exact eM [some 0, some 1, some 2] rfl
            · have h := (if_neg g9).symm.trans h
              simp only [VW.down, Nat.reduceEqDiff, reduceCtorEq, Nat.reduceAdd, Nat.reduceLeDiff, Nat.reduceLT, Nat.reduceBEq, Nat.reduceSub, EE.down]
              refine guardS (fun g10 => ?_) (fun g10 => ?_)
              · have h := (if_pos g10).symm.trans h
                simp only [VW.down, Nat.reduceEqDiff, reduceCtorEq, Nat.reduceAdd, Nat.reduceLeDiff, Nat.reduceLT, Nat.reduceBEq, Nat.reduceSub, EE.down]
                refine guardSB (fun g11 => ?_) (fun g11 => ?_)
                · have h := (if_pos g11).symm.trans h
                  simp only [VW.down, Nat.reduceEqDiff, reduceCtorEq, Nat.reduceAdd, Nat.reduceLeDiff, Nat.reduceLT, Nat.reduceBEq, Nat.reduceSub, EE.down]
                  obtain rfl := Option.some.inj h
                  exact eM [some 0, some 1, some 2] rfl
                · have h := (if_neg g11).symm.trans h
                  simp only [VW.down, Nat.reduceEqDiff, reduceCtorEq, Nat.reduceAdd, Nat.reduceLeDiff, Nat.reduceLT, Nat.reduceBEq, Nat.reduceSub, EE.down]
                  refine guardSB (fun g12 => ?_) (fun g12 => ?_)
                  · have h := (if_pos g12).symm.trans h
                    simp only [VW.down, Nat.reduceEqDiff, reduceCtorEq, Nat.reduceAdd, Nat.reduceLeDiff, Nat.reduceLT, Nat.reduceBEq, Nat.reduceSub, EE.down]
                    obtain rfl := Option.some.inj h
                    exact eM [some 0, some 1, some 2] rfl
                  · have h := (if_neg g12).symm.trans h
                    simp only [VW.down, Nat.reduceEqDiff, reduceCtorEq, Nat.reduceAdd, Nat.reduceLeDiff, Nat.reduceLT, Nat.reduceBEq, Nat.reduceSub, EE.down]
                    obtain rfl := Option.some.inj h
                    exact eM [some 0, some 1, some 2] rfl
              · have h := (if_neg g10).symm.trans h
                simp only [VW.down, Nat.reduceEqDiff, reduceCtorEq, Nat.reduceAdd, Nat.reduceLeDiff, Nat.reduceLT, Nat.reduceBEq, Nat.reduceSub, EE.down]
                refine guardSB (fun g13 => ?_) (fun g13 => ?_)
                · have h := (if_pos g13).symm.trans h
                  simp only [VW.down, Nat.reduceEqDiff, reduceCtorEq, Nat.reduceAdd, Nat.reduceLeDiff, Nat.reduceLT, Nat.reduceBEq, Nat.reduceSub, EE.down]
                  obtain rfl := Option.some.inj h
                  exact eM [some 0, some 1, some 2] rfl
                · have h := (if_neg g13).symm.trans h
                  simp only [VW.down, Nat.reduceEqDiff, reduceCtorEq, Nat.reduceAdd, Nat.reduceLeDiff, Nat.reduceLT, Nat.reduceBEq, Nat.reduceSub, EE.down]
                  obtain rfl := Option.some.inj h
                  exact eM [some 0, some 1, some 2] rfl
          · have h := (if_neg g8).symm.trans h
            simp only [VW.down, Nat.reduceEqDiff, reduceCtorEq, Nat.reduceAdd, Nat.reduceLeDiff, Nat.reduceLT, Nat.reduceBEq, Nat.reduceSub, EE.down]
            refine guardSB (fun g14 => ?_) (fun g14 => ?_)
            · have h := (if_pos g14).symm.trans h
              simp only [VW.down, Nat.reduceEqDiff, reduceCtorEq, Nat.reduceAdd, Nat.reduceLeDiff, Nat.reduceLT, Nat.reduceBEq, Nat.reduceSub, EE.down]
              obtain rfl := Option.some.inj h
              exact eM [some 0, some 1, some 2] rfl
            · have h := (if_neg g14).symm.trans h
              simp only [VW.down, Nat.reduceEqDiff, reduceCtorEq, Nat.reduceAdd, Nat.reduceLeDiff, Nat.reduceLT, Nat.reduceBEq, Nat.reduceSub, EE.down]
              obtain rfl := Option.some.inj h
              exact eM [some 0, some 1, some 2] rfl
        · rintro _ rfl
          clear ho
          simp only [VW.down, Nat.reduceEqDiff, reduceCtorEq, Nat.reduceAdd, Nat.reduceLeDiff, Nat.reduceLT, Nat.reduceBEq, Nat.reduceSub, EE.down]
          refine condB (fun c15 => ?_) (fun c15 => ?_)
          · have h := (if_pos c15).symm.trans h
            simp only [VW.down, Nat.reduceEqDiff, reduceCtorEq, Nat.reduceAdd, Nat.reduceLeDiff, Nat.reduceLT, Nat.reduceBEq, Nat.reduceSub, EE.down]
            obtain rfl := Option.some.inj h
            exact eM [some 0] rfl
          · have h := (if_neg c15).symm.trans h
            simp only [VW.down, Nat.reduceEqDiff, reduceCtorEq, Nat.reduceAdd, Nat.reduceLeDiff, Nat.reduceLT, Nat.reduceBEq, Nat.reduceSub, EE.down]
            obtain ⟨y16, hy16, h⟩ := Option.bind_eq_some_iff.1 h
            refine t_idxO (enc := eWorkItem) (xs := o3_0) rfl rfl rfl (by first | rfl | simp only [List.length_set] | exact (clrL_len (slI_len (by assumption))).symm) hy16 ?_
            simp only [VW.down, Nat.reduceEqDiff, reduceCtorEq, Nat.reduceAdd, Nat.reduceLeDiff, Nat.reduceLT, Nat.reduceBEq, Nat.reduceSub, EE.down]
            refine StRow.rd (y' := y6) (rdI_some hy16).2.1 (by simp [EE.down]) rfl ?_
            simp only [VW.down, Nat.reduceEqDiff, reduceCtorEq, Nat.reduceAdd, Nat.reduceLeDiff, Nat.reduceLT, Nat.reduceBEq, Nat.reduceSub, EE.down]
            obtain ⟨y17, hy17, h⟩ := Option.bind_eq_some_iff.1 h
            refine t_idxO (enc := eWorkItem) (xs := ((o3_0.set ((IntKind.i64.wrap (o3_1 - 1))).toNat y6))) rfl rfl rfl (by first | rfl | simp only [List.length_set] | exact (clrL_len (slI_len (by assumption))).symm) hy17 ?_
            simp only [VW.down, Nat.reduceEqDiff, reduceCtorEq, Nat.reduceAdd, Nat.reduceLeDiff, Nat.reduceLT, Nat.reduceBEq, Nat.reduceSub, EE.down]
            refine StRow.rd (y' := y5) (rdI_some hy17).2.1 (by simp [EE.down]) rfl ?_
            simp only [VW.down, Nat.reduceEqDiff, reduceCtorEq, Nat.reduceAdd, Nat.reduceLeDiff, Nat.reduceLT, Nat.reduceBEq, Nat.reduceSub, EE.down]
            exact eL' j [some 0] ⟨(((o3_0.set ((IntKind.i64.wrap (o3_1 - 1))).toNat y6)).set o3_1.toNat y5), (IntKind.i64.wrap (o3_1 - 1)), rfl, h⟩ (Nat.lt_succ_self _)
      · have h := (if_neg c4).symm.trans h
        simp only [VW.down, Nat.reduceEqDiff, reduceCtorEq, Nat.reduceAdd, Nat.reduceLeDiff, Nat.reduceLT, Nat.reduceBEq, Nat.reduceSub, EE.down]
        obtain rfl := Option.some.inj h
        exact eM [some 0] rfl
  · rintro _ rfl
    clear ho
    simp only [VW.down, Nat.reduceEqDiff, reduceCtorEq, Nat.reduceAdd, Nat.reduceLeDiff, Nat.reduceLT, Nat.reduceBEq, Nat.reduceSub, EE.down]
    obtain rfl := Option.some.inj h
    exact eF [some 0]

/- orchestrator/orchestratorref31.After -/
def F24 (x0 : WorkQueue) (x1 : ByteArray) (x2 : Int) : Option ((List ByteArray) × (List ByteArray) × (List ByteArray) × (List WorkItem) × (List WorkItem)) := (F51 x0).bind fun t1 => (F54 x2 0 1000000000000).bind fun t2 => (((F55 t1.2.2.2.1 x1).bind fun t4 => (if t4.2 = true then some ((if t4.1 < (if 1000000000000 < (if x2 < 0 then 0 else x2) then 1000000000000 else (if x2 < 0 then 0 else x2)) then t4.1 else (if 1000000000000 < (if x2 < 0 then 0 else x2) then 1000000000000 else (if x2 < 0 then 0 else x2)))) else some ((if 1000000000000 < (if x2 < 0 then 0 else x2) then 1000000000000 else (if x2 < 0 then 0 else x2))))).bind fun o3 => (F57 t1.2.2.2.1 x1).bind fun t6 => (F56 t6 ((⟨x1, o3⟩ : WorkItem)) true).bind fun t7 => some ((t1.1, t1.2.1, t1.2.2.1, t7, t1.2.2.2.2)))
def a24 : AFn := ⟨36, [(.cell 6 (some 5))],
 (.seq (.reg [⟨(some 3), none, .box (.t 0), [], (.new [])⟩,
   ⟨(some 6), none, .zbox [.d (.v (.slice none 0 0)), .d (.v (.slice none 0 0)), .d (.v (.slice none 0 0)), .d (.v (.slice none 0 0)), .d (.v (.slice none 0 0))], [], (.new [])⟩])
 (.seq (.reg [⟨(some 11), none, .load (some 5) (.t 3), [], (.new [])⟩,
   ⟨(some 12), none, .call 51 [(.t 11)], [], (.new [])⟩,
   ⟨(some 7), none, .zbox [.d (.v (.slice none 0 0)), .d (.v (.slice none 0 0)), .d (.v (.slice none 0 0)), .d (.v (.slice none 0 0)), .d (.v (.slice none 0 0))], [], (.new [])⟩,
   ⟨none, none, .store 5 (.t 7) (.t 12), [], (.new [])⟩])
 (.seq (.reg [⟨(some 13), none, .mv (.t 2), [], (.new [])⟩,
   ⟨(some 14), none, .call 54 [(.t 13), (kI 0), (kI 1000000000000)], [], (.new [])⟩,
   ⟨(some 8), none, .mv (.t 14), [], (.new [])⟩])
 (.seq (.sem (.seq (.reg [⟨(some 16), none, .fieldA 3 (.t 7), [], (.new [])⟩,
   ⟨(some 17), none, .load none (.t 16), [], (.new [])⟩,
   ⟨(some 18), none, .mv (.t 1), [], (.new [])⟩,
   ⟨(some 19), none, .call 55 [(.t 17), (.t 18)], [], (.new [])⟩,
   ⟨(some 15), none, .mv (.t 19), [], (.new [])⟩,
   ⟨(some 20), none, .ext (.t 15) 0, [], (.new [])⟩,
   ⟨(some 21), none, .ext (.t 15) 1, [], (.new [])⟩,
   ⟨(some 9), none, .mv (.t 20), [], (.new [])⟩,
   ⟨(some 10), none, .mv (.t 21), [], (.new [])⟩])
 (.seq (.reg [⟨(some 22), none, .mv (.t 10), [], (.new [])⟩])
 (.cond (.t 22)
 (.reg [⟨(some 23), none, .mv (.t 8), [], (.new [])⟩,
   ⟨(some 24), none, .mv (.t 9), [], (.new [])⟩,
   ⟨(some 25), none, .min (.t 23) (.t 24), [], (.new [])⟩,
   ⟨(some 8), none, .mv (.t 25), [], (.new [])⟩])
 .skip))))
 (.seq (.reg [⟨(some 26), none, .fieldA 3 (.t 7), [], (.new [])⟩,
   ⟨(some 27), none, .load none (.t 26), [], (.new [])⟩,
   ⟨(some 28), none, .mv (.t 1), [], (.new [])⟩,
   ⟨(some 29), none, .call 57 [(.t 27), (.t 28)], [], (.new [])⟩,
   ⟨(some 30), none, .mv (.t 1), [], (.new [])⟩,
   ⟨(some 31), none, .mv (.t 8), [], (.new [])⟩,
   ⟨(some 32), none, .build [.d (.v (.string ⟨#[]⟩)), .d (.v (.int .i64 0))] [(0, 1, (.t 30)), (1, 1, (.t 31))], [], (.new [])⟩,
   ⟨(some 33), none, .call 56 [(.t 29), (.t 32), (kB true)], [], (.new [])⟩,
   ⟨(some 34), none, .fieldA 3 (.t 7), [], (.new [])⟩,
   ⟨none, none, .store 1 (.t 34) (.t 33), [], (.new [])⟩])
 (.seq (.reg [⟨(some 35), none, .load (some 5) (.t 7), [], (.new [])⟩,
   ⟨none, none, .store 5 (.t 6) (.t 35), [], (.lone [7])⟩])
 .ret))))))⟩
theorem a24_ok : afn Try.prog 24 = some a24.er := by kernel_rfl
theorem F24_ok {x0 : WorkQueue} {x1 : ByteArray} {x2 : Int} {r : (List ByteArray) × (List ByteArray) × (List ByteArray) × (List WorkItem) × (List WorkItem)} (h : F24 x0 x1 x2 = some r) : CallD Try.prog 24 [.agg [.d (.sl (x0.Ready.map eS)), .d (.sl (x0.Working.map eS)), .d (.sl (x0.Dirty.map eS)), .d (.sl (x0.Later.map eWorkItem)), .d (.sl (x0.Retries.map eWorkItem))], .c (.d (.v (.string x1))), .c (.d (.v (.int .i64 x2)))] [] (tupV [.agg [.own 0 0 0 (r.1.length) none, .own 1 0 0 (r.2.1.length) none, .own 2 0 0 (r.2.2.1.length) none, .own 3 0 0 (r.2.2.2.1.length) none, .own 4 0 0 (r.2.2.2.2.length) none]]) [some (.arr 0 1 (r.1.map eS)), some (.arr 0 1 (r.2.1.map eS)), some (.arr 0 1 (r.2.2.1.map eS)), some (.arr 0 2 (r.2.2.2.1.map eWorkItem)), some (.arr 0 2 (r.2.2.2.2.map eWorkItem))] := by
  refine callS a24_ok (by simp [a24]) ?_
  rw [F24] at h
  simp only [a24, VW.down, Nat.reduceEqDiff, reduceCtorEq, Nat.reduceAdd, Nat.reduceLeDiff, Nat.reduceLT, Nat.reduceBEq, Nat.reduceSub, EE.down]
  obtain ⟨t1, ht1, h⟩ := Option.bind_eq_some_iff.1 h
  refine callX_n [] (F51_ok ht1) ?_ ?_ ?_ ?_ ?_ ?_
  · first | rfl | simp [nrmA, nrmC, nrm, A1.ren, C.ren, rn, List.length_set]
  · simp [liveAll, A1.live, C.live]
  · rfl
  · decide
  · exact trivial
  simp only [VW.down, Nat.reduceEqDiff, reduceCtorEq, Nat.reduceAdd, Nat.reduceLeDiff, Nat.reduceLT, Nat.reduceBEq, Nat.reduceSub, EE.down]
  obtain ⟨t2, ht2, h⟩ := Option.bind_eq_some_iff.1 h
  refine callX_n [] (F54_ok ht2) ?_ ?_ ?_ ?_ ?_ ?_
  · first | rfl | simp [nrmA, nrmC, nrm, A1.ren, C.ren, rn, List.length_set]
  · simp [liveAll, A1.live, C.live]
  · rfl
  · decide
  · exact trivial
  simp only [VW.down, Nat.reduceEqDiff, reduceCtorEq, Nat.reduceAdd, Nat.reduceLeDiff, Nat.reduceLT, Nat.reduceBEq, Nat.reduceSub, EE.down]
  obtain ⟨o3, ho, h⟩ := Option.bind_eq_some_iff.1 h
  refine cutS (fun s => s = ⟨[(1, .one (.c (.d (.v (.string x1))))), (6, .one (.c (.pt 0 0))), (7, .one (.c (.pt 1 0))), (8, .one (.c (.d (.v (.int .i64 o3)))))], [some (.box [.d (.v (.slice none 0 0)), .d (.v (.slice none 0 0)), .d (.v (.slice none 0 0)), .d (.v (.slice none 0 0)), .d (.v (.slice none 0 0))]), some (.box [.own 2 0 0 (t1.1.length) none, .own 3 0 0 (t1.2.1.length) none, .own 4 0 0 (t1.2.2.1.length) none, .own 5 0 0 (t1.2.2.2.1.length) none, .own 6 0 0 (t1.2.2.2.2.length) none]), some (.arr 0 1 (t1.1.map eS)), some (.arr 0 1 (t1.2.1.map eS)), some (.arr 0 1 (t1.2.2.1.map eS)), some (.arr 0 2 (t1.2.2.2.1.map eWorkItem)), some (.arr 0 2 (t1.2.2.2.2.map eWorkItem))]⟩) ?_ ?_
  · have h := ho
    clear ho
    simp only [VW.down, Nat.reduceEqDiff, reduceCtorEq, Nat.reduceAdd, Nat.reduceLeDiff, Nat.reduceLT, Nat.reduceBEq, Nat.reduceSub, EE.down]
    obtain ⟨t4, ht4, h⟩ := Option.bind_eq_some_iff.1 h
    refine callX_bor (F55_ok ht4) (by simp only [borAs, bors, hp, List.getElem?_cons_zero, List.getElem?_cons_succ, Option.join_some, List.drop_zero, bor_full', true_and, Nat.zero_add, List.length_map, Nat.le_refl, nrm, List.length_cons, List.length_nil, Nat.reduceAdd, Nat.reduceLeDiff, List.take_succ_cons, List.take_zero, List.take_nil, List.map_cons, List.map_nil, List.length_set, EE.down]) rfl ?_
    simp only [VW.down, Nat.reduceEqDiff, reduceCtorEq, Nat.reduceAdd, Nat.reduceLeDiff, Nat.reduceLT, Nat.reduceBEq, Nat.reduceSub, EE.down]
    refine condB (fun c5 => ?_) (fun c5 => ?_)
    · have h := (if_pos c5).symm.trans h
      simp only [VW.down, Nat.reduceEqDiff, reduceCtorEq, Nat.reduceAdd, Nat.reduceLeDiff, Nat.reduceLT, Nat.reduceBEq, Nat.reduceSub, EE.down]
      obtain rfl := Option.some.inj h
      exact eM [some 1, some 7, some 2, some 3, some 4, some 5, some 6] rfl
    · have h := (if_neg c5).symm.trans h
      simp only [VW.down, Nat.reduceEqDiff, reduceCtorEq, Nat.reduceAdd, Nat.reduceLeDiff, Nat.reduceLT, Nat.reduceBEq, Nat.reduceSub, EE.down]
      obtain rfl := Option.some.inj h
      exact eM [some 1, some 7, some 2, some 3, some 4, some 5, some 6] rfl
  · rintro _ rfl
    clear ho
    simp only [VW.down, Nat.reduceEqDiff, reduceCtorEq, Nat.reduceAdd, Nat.reduceLeDiff, Nat.reduceLT, Nat.reduceBEq, Nat.reduceSub, EE.down]
    obtain ⟨t6, ht6, h⟩ := Option.bind_eq_some_iff.1 h
    refine callX_borF (F57_ok ht6) (by simp only [borAs, bors, hp, List.getElem?_cons_zero, List.getElem?_cons_succ, Option.join_some, List.drop_zero, bor_full', true_and, Nat.zero_add, List.length_map, Nat.le_refl, nrm, List.length_cons, List.length_nil, Nat.reduceAdd, Nat.reduceLeDiff, List.take_succ_cons, List.take_zero, List.take_nil, List.map_cons, List.map_nil, List.length_set, EE.down]) rfl ⟨flat_rows (enc := eWorkItem) (fun _ => rfl) _, trivial⟩ ?_
    simp only [VW.down, Nat.reduceEqDiff, reduceCtorEq, Nat.reduceAdd, Nat.reduceLeDiff, Nat.reduceLT, Nat.reduceBEq, Nat.reduceSub, EE.down]
    obtain ⟨t7, ht7, h⟩ := Option.bind_eq_some_iff.1 h
    refine callX_borF (F56_ok ht7) (by simp only [borAs, bors, hp, List.getElem?_cons_zero, List.getElem?_cons_succ, Option.join_some, List.drop_zero, bor_full', true_and, Nat.zero_add, List.length_map, Nat.le_refl, nrm, List.length_cons, List.length_nil, Nat.reduceAdd, Nat.reduceLeDiff, List.take_succ_cons, List.take_zero, List.take_nil, List.map_cons, List.map_nil, List.length_set, EE.down]) rfl ⟨flat_rows (enc := eWorkItem) (fun _ => rfl) _, trivial⟩ ?_
    simp only [VW.down, Nat.reduceEqDiff, reduceCtorEq, Nat.reduceAdd, Nat.reduceLeDiff, Nat.reduceLT, Nat.reduceBEq, Nat.reduceSub, EE.down]
    obtain rfl := Option.some.inj h
    exact eF [some 2, some 3, some 4, some 8, some 6]

/- orchestrator/orchestratorref31.Take -/
def F25 (x0 : WorkQueue) : Option ((List ByteArray) × (List ByteArray) × (List ByteArray) × (List WorkItem) × (List WorkItem) × ByteArray × Bool) := (F51 x0).bind fun t1 => (if (t1.1.length : Int) = 0 then some ((t1.1, t1.2.1, t1.2.2.1, t1.2.2.2.1, t1.2.2.2.2, (⟨#[]⟩ : ByteArray), false)) else (rdI t1.1 0).bind fun y3 => (slI t1.1 1 ((t1.1.length : Int))).bind fun s4 => (F53 y3).bind fun t5 => (F52 t1.2.1 ([y3])).bind fun t6 => some ((s4, t6, t1.2.2.1, t1.2.2.2.1, t1.2.2.2.2, y3, true)))
def a25 : AFn := ⟨30, [(.cell 2 (some 5)), (.tmp 3), (.tmp 4)],
 (.seq (.reg [⟨(some 1), none, .box (.t 0), [], (.new [])⟩,
   ⟨(some 2), none, .zbox [.d (.v (.slice none 0 0)), .d (.v (.slice none 0 0)), .d (.v (.slice none 0 0)), .d (.v (.slice none 0 0)), .d (.v (.slice none 0 0))], [], (.new [])⟩,
   ⟨(some 3), none, .mv (kS ⟨#[]⟩), [], (.new [])⟩,
   ⟨(some 4), none, .mv (kB false), [], (.new [])⟩])
 (.seq (.reg [⟨(some 7), none, .load (some 5) (.t 1), [], (.new [])⟩,
   ⟨(some 8), none, .call 51 [(.t 7)], [], (.new [])⟩,
   ⟨(some 5), none, .zbox [.d (.v (.slice none 0 0)), .d (.v (.slice none 0 0)), .d (.v (.slice none 0 0)), .d (.v (.slice none 0 0)), .d (.v (.slice none 0 0))], [], (.new [])⟩,
   ⟨none, none, .store 5 (.t 5) (.t 8), [], (.new [])⟩])
 (.seq (.seq (.reg [⟨(some 9), none, .fieldA 0 (.t 5), [], (.new [])⟩,
   ⟨(some 10), none, .load none (.t 9), [], (.new [])⟩,
   ⟨(some 11), none, .len (.t 10), [], (.new [])⟩,
   ⟨(some 12), none, .bin .eql (.t 11) (kI 0), [], (.new [])⟩])
 (.cond (.t 12)
 (.seq (.reg [⟨(some 13), none, .load (some 5) (.t 5), [], (.new [])⟩,
   ⟨none, none, .store 5 (.t 2) (.t 13), [], (.new [])⟩,
   ⟨(some 3), none, .mv (kS ⟨#[]⟩), [], (.new [])⟩,
   ⟨(some 4), none, .mv (kB false), [], (.new [])⟩])
 .ret)
 .skip))
 (.seq (.reg [⟨(some 14), none, .fieldA 0 (.t 5), [], (.new [])⟩,
   ⟨(some 15), none, .load none (.t 14), [], (.new [])⟩,
   ⟨(some 16), none, .indexA 1 (.t 15) (kI 0), [], (.new [])⟩,
   ⟨(some 17), none, .load none (.t 16), [], (.new [])⟩,
   ⟨(some 6), none, .mv (.t 17), [], (.new [])⟩])
 (.seq (.reg [⟨(some 18), none, .fieldA 0 (.t 5), [], (.new [])⟩,
   ⟨(some 19), none, .load none (.t 18), [], (.new [])⟩,
   ⟨(some 20), none, .slice 1 (.t 19) (some (kI 1)) none none, [], (.new [])⟩,
   ⟨(some 21), none, .fieldA 0 (.t 5), [], (.new [])⟩,
   ⟨none, none, .store 1 (.t 21) (.t 20), [], (.new [])⟩])
 (.seq (.regd [⟨(some 22), none, .fieldA 1 (.t 5), [], (.new [])⟩,
   ⟨(some 23), none, .load none (.t 22), [0], (.new [])⟩,
   ⟨(some 24), none, .mv (.t 6), [], (.new [])⟩,
   ⟨(some 25), none, .call 53 [(.t 24)], [2], (.lone [5, 22])⟩,
   ⟨(some 26), none, .call 52 [(.t 23), (.t 25)], [0, 1, 2, 3], (.lone [])⟩,
   ⟨(some 27), none, .fieldA 1 (.t 5), [0, 1, 2, 3, 4], (.new [])⟩,
   ⟨none, none, .store 1 (.t 27) (.t 26), [0, 1, 2, 3, 4, 5], (.lone [])⟩])
 (.seq (.reg [⟨(some 28), none, .load (some 5) (.t 5), [], (.new [])⟩,
   ⟨(some 29), none, .mv (.t 6), [], (.new [])⟩,
   ⟨none, none, .store 5 (.t 2) (.t 28), [], (.new [])⟩,
   ⟨(some 3), none, .mv (.t 29), [], (.new [])⟩,
   ⟨(some 4), none, .mv (kB true), [], (.new [])⟩])
 .ret)))))))⟩
theorem a25_ok : afn Try.prog 25 = some a25.er := by kernel_rfl
theorem F25_ok {x0 : WorkQueue} {r : (List ByteArray) × (List ByteArray) × (List ByteArray) × (List WorkItem) × (List WorkItem) × ByteArray × Bool} (h : F25 x0 = some r) : CallD Try.prog 25 [.agg [.d (.sl (x0.Ready.map eS)), .d (.sl (x0.Working.map eS)), .d (.sl (x0.Dirty.map eS)), .d (.sl (x0.Later.map eWorkItem)), .d (.sl (x0.Retries.map eWorkItem))]] [] (tupV [.agg [.d (.sl (r.1.map eS)), .own 0 0 0 (r.2.1.length) none, .own 1 0 0 (r.2.2.1.length) none, .own 2 0 0 (r.2.2.2.1.length) none, .own 3 0 0 (r.2.2.2.2.1.length) none], .c (.d (.v (.string r.2.2.2.2.2.1))), .c (.d (.v (.bool r.2.2.2.2.2.2)))]) [some (.arr 0 1 (r.2.1.map eS)), some (.arr 0 1 (r.2.2.1.map eS)), some (.arr 0 2 (r.2.2.2.1.map eWorkItem)), some (.arr 0 2 (r.2.2.2.2.1.map eWorkItem))] := by
  refine callS a25_ok (by simp [a25]) ?_
  rw [F25] at h
  simp only [a25, VW.down, Nat.reduceEqDiff, reduceCtorEq, Nat.reduceAdd, Nat.reduceLeDiff, Nat.reduceLT, Nat.reduceBEq, Nat.reduceSub, EE.down]
  obtain ⟨t1, ht1, h⟩ := Option.bind_eq_some_iff.1 h
  refine callX_n [] (F51_ok ht1) ?_ ?_ ?_ ?_ ?_ ?_
  · first | rfl | simp [nrmA, nrmC, nrm, A1.ren, C.ren, rn, List.length_set]
  · simp [liveAll, A1.live, C.live]
  · rfl
  · decide
  · exact trivial
  simp only [VW.down, Nat.reduceEqDiff, reduceCtorEq, Nat.reduceAdd, Nat.reduceLeDiff, Nat.reduceLT, Nat.reduceBEq, Nat.reduceSub, EE.down]
  refine condS (fun c2 => ?_) (fun c2 => ?_)
  · have h := (if_pos c2).symm.trans h
    simp only [VW.down, Nat.reduceEqDiff, reduceCtorEq, Nat.reduceAdd, Nat.reduceLeDiff, Nat.reduceLT, Nat.reduceBEq, Nat.reduceSub, EE.down]
    obtain rfl := Option.some.inj h
    exact eF [some 3, some 4, some 5, some 6]
  · have h := (if_neg c2).symm.trans h
    simp only [VW.down, Nat.reduceEqDiff, reduceCtorEq, Nat.reduceAdd, Nat.reduceLeDiff, Nat.reduceLT, Nat.reduceBEq, Nat.reduceSub, EE.down]
    obtain ⟨y3, hy3, h⟩ := Option.bind_eq_some_iff.1 h
    refine t_idxO (enc := eS) (xs := t1.1) rfl rfl rfl (by first | rfl | simp only [List.length_set] | exact (clrL_len (slI_len (by assumption))).symm) hy3 ?_
    simp only [VW.down, Nat.reduceEqDiff, reduceCtorEq, Nat.reduceAdd, Nat.reduceLeDiff, Nat.reduceLT, Nat.reduceBEq, Nat.reduceSub, EE.down]
    refine LdRow.rd (rdI_some hy3).2.1 ?_
    simp only [VW.down, Nat.reduceEqDiff, reduceCtorEq, Nat.reduceAdd, Nat.reduceLeDiff, Nat.reduceLT, Nat.reduceBEq, Nat.reduceSub, EE.down]
    obtain ⟨s4, hs4, h⟩ := Option.bind_eq_some_iff.1 h
    refine t_sliceO (enc := eS) (xs := t1.1) rfl rfl (by first | rfl | simp only [List.length_set] | exact (clrL_len (slI_len (by assumption))).symm) rfl (by first | rfl | simp only [intV, List.length_set]) hs4 ?_
    simp only [VW.down, Nat.reduceEqDiff, reduceCtorEq, Nat.reduceAdd, Nat.reduceLeDiff, Nat.reduceLT, Nat.reduceBEq, Nat.reduceSub, EE.down]
    obtain ⟨t5, ht5, h⟩ := Option.bind_eq_some_iff.1 h
    refine callX_n [] (F53_ok ht5) ?_ ?_ ?_ ?_ ?_ ?_
    · first | rfl | simp [nrmA, nrmC, nrm, A1.ren, C.ren, rn, List.length_set]
    · simp [liveAll, A1.live, C.live]
    · rfl
    · decide
    · exact trivial
    simp only [VW.down, Nat.reduceEqDiff, reduceCtorEq, Nat.reduceAdd, Nat.reduceLeDiff, Nat.reduceLT, Nat.reduceBEq, Nat.reduceSub, EE.down]
    obtain ⟨t6, ht6, h⟩ := Option.bind_eq_some_iff.1 h
    refine callX_borF (F52_ok ht6) (by simp only [borAs, bors, hp, List.getElem?_cons_zero, List.getElem?_cons_succ, Option.join_some, List.drop_zero, bor_full', true_and, Nat.zero_add, List.length_map, Nat.le_refl, nrm, List.length_cons, List.length_nil, Nat.reduceAdd, Nat.reduceLeDiff, List.take_succ_cons, List.take_zero, List.take_nil, List.map_cons, List.map_nil, List.length_set, EE.down]) rfl ⟨flat_rows (enc := eS) (fun _ => rfl) _, trivial⟩ ?_
    simp only [VW.down, Nat.reduceEqDiff, reduceCtorEq, Nat.reduceAdd, Nat.reduceLeDiff, Nat.reduceLT, Nat.reduceBEq, Nat.reduceSub, EE.down]
    obtain rfl := Option.some.inj h
    exact eF [some 9, some 4, some 5, some 6] (hB := by simp only [ZZ.down, Nat.reduceEqDiff, reduceCtorEq, Nat.reduceAdd, Nat.reduceLeDiff, Nat.reduceLT, Nat.reduceBNe, EE.down, slI_frz1 hs4, slI_le1 hs4]) (hs := by simp only [ZZ.down, Nat.reduceEqDiff, reduceCtorEq, Nat.reduceAdd, Nat.reduceLeDiff, Nat.reduceLT, Nat.reduceBNe, EE.down, slI_frz1 hs4, slI_le1 hs4])

/- orchestrator/orchestratorref10.Minus -/
def F18_l1 (x1 : (List ByteArray)) : List ByteArray → Nat → (List ByteArray) → Option ((List ByteArray))
  | [], o1_1, o1_0 => some o1_0
  | xo1 :: xs, o1_1, o1_0 => (((F14 x1 xo1).bind fun t4 => (if (nb t4) = true then (F38 o1_0 xo1).bind fun t6 => some t6 else some o1_0)).bind fun o3 => F18_l1 x1 xs (o1_1 + 1) o3)
def F18 (x0 : (List ByteArray)) (x1 : (List ByteArray)) : Option ((List ByteArray)) := (((ck (0 ≤ x0.length ∧ x0.length ≤ 4294967290)).bind fun u7 => F18_l1 x1 x0 0 ([])).bind fun o1 => some o1)
def a18 : AFn := ⟨27, [(.tmp 4)],
 (.seq (.reg [⟨(some 4), none, .mv kN, [], (.new [])⟩])
 (.seq (.reg [⟨(some 5), none, .mv kN, [], (.new [])⟩])
 (.seq (.seq (.reg [⟨(some 6), none, .mv (kI 0), [], (.new [])⟩])
 (.sem (.block 0 (.loop (.seq (.seq (.reg [⟨(some 7), none, .mv (.t 6), [], (.new [])⟩,
   ⟨(some 8), none, .mv (.t 0), [], (.new [])⟩,
   ⟨(some 9), none, .len (.t 8), [], (.new [])⟩,
   ⟨(some 10), none, .bin .lss (.t 7) (.t 9), [], (.new [])⟩])
 (.cond (.t 10)
 .skip
 (.exit 0)))
 (.seq (.sem (.block 1 (.seq (.reg [⟨(some 13), none, .mv (.t 1), [], (.new [])⟩,
   ⟨(some 14), none, .mv (.t 0), [], (.new [])⟩,
   ⟨(some 15), none, .mv (.t 6), [], (.new [])⟩,
   ⟨(some 16), none, .indexA 1 (.t 14) (.t 15), [], (.new [])⟩,
   ⟨(some 17), none, .load none (.t 16), [], (.new [])⟩,
   ⟨(some 18), none, .call 14 [(.t 13), (.t 17)], [], (.new [])⟩,
   ⟨(some 19), none, .not (.t 18), [], (.new [])⟩])
 (.cond (.t 19)
 (.reg [⟨(some 20), none, .mv (.t 5), [], (.new [])⟩,
   ⟨(some 21), none, .mv (.t 0), [], (.new [])⟩,
   ⟨(some 22), none, .mv (.t 6), [], (.new [])⟩,
   ⟨(some 23), none, .indexA 1 (.t 21) (.t 22), [], (.new [])⟩,
   ⟨(some 24), none, .load none (.t 23), [], (.new [])⟩,
   ⟨(some 25), none, .call 38 [(.t 20), (.t 24)], [], (.new [])⟩,
   ⟨(some 5), none, .mv (.t 25), [], (.new [])⟩])
 .skip))))
 (.reg [⟨(some 11), none, .mv (.t 6), [], (.new [])⟩,
   ⟨(some 12), none, .bin .add (.t 11) (kI 1), [], (.new [])⟩,
   ⟨(some 6), none, .mv (.t 12), [], (.new [])⟩])))))))
 (.seq (.reg [⟨(some 26), none, .mv (.t 5), [], (.new [])⟩,
   ⟨(some 4), none, .mv (.t 26), [], (.new [])⟩])
 .ret))))⟩
theorem a18_ok : afn Try.prog 18 = some a18.er := by kernel_rfl
theorem F18_ok {x0 : (List ByteArray)} {x1 : (List ByteArray)} {r : (List ByteArray)} (h : F18 x0 x1 = some r) : CallD Try.prog 18 [.c (.d (.sl (x0.map eS))), .c (.d (.sl (x1.map eS)))] [] (tupV [.c (.own 0 0 0 (r.length) none)]) [some (.arr 0 1 (r.map eS))] := by
  refine callS a18_ok (by simp [a18]) ?_
  rw [F18] at h
  simp only [a18, VW.down, Nat.reduceEqDiff, reduceCtorEq, Nat.reduceAdd, Nat.reduceLeDiff, Nat.reduceLT, Nat.reduceBEq, Nat.reduceSub, EE.down]
  obtain ⟨o1, ho, h⟩ := Option.bind_eq_some_iff.1 h
  refine cutS (fun s => s = ⟨[(5, .one (.c (.own 0 0 0 (o1.length) none)))], [some (.arr 0 1 (o1.map eS))]⟩) ?_ ?_
  · have h := ho
    clear ho
    obtain ⟨_, hk, h⟩ := Option.bind_eq_some_iff.1 h
    have hk := ck_some hk
    simp only [VW.down, Nat.reduceEqDiff, reduceCtorEq, Nat.reduceAdd, Nat.reduceLeDiff, Nat.reduceLT, Nat.reduceBEq, Nat.reduceSub, EE.down]
    refine bL (fun j s => ∃ (o1_1 : Nat) (o1_0 : List ByteArray), (o1_1 ≤ x0.length ∧ j = x0.length - o1_1) ∧ s = ⟨[(0, .one (.c (.d (.sl (x0.map eS))))), (1, .one (.c (.d (.sl (x1.map eS))))), (5, .one (.c (.own 0 0 0 (o1_0.length) none))), (6, .one (.c (.d (.v (.int .i64 ((o1_1 : Int)))))))], [some (.arr 0 1 (o1_0.map eS))]⟩ ∧ F18_l1 x1 (x0.drop o1_1) o1_1 o1_0 = some o1) (x0.length - 0) [none] ⟨0, [], ⟨hk.1, rfl⟩, rfl, h⟩ ?_
    rintro _ _ ⟨o1_1, o1_0, ⟨hi, rfl⟩, rfl, h⟩
    simp only [VW.down, Nat.reduceEqDiff, reduceCtorEq, Nat.reduceAdd, Nat.reduceLeDiff, Nat.reduceLT, Nat.reduceBEq, Nat.reduceSub, EE.down]
    refine condS (fun c2 => ?_) (fun c2 => ?_)
    · obtain ⟨xo1, hxo1, hd⟩ := countY c2
      rw [hd, F18_l1] at h
      simp only [VW.down, Nat.reduceEqDiff, reduceCtorEq, Nat.reduceAdd, Nat.reduceLeDiff, Nat.reduceLT, Nat.reduceBEq, Nat.reduceSub, EE.down]
      obtain ⟨o3, ho, h⟩ := Option.bind_eq_some_iff.1 h
      refine cutS (fun s => s = ⟨[(0, .one (.c (.d (.sl (x0.map eS))))), (1, .one (.c (.d (.sl (x1.map eS))))), (5, .one (.c (.own 0 0 0 (o3.length) none))), (6, .one (.c (.d (.v (.int .i64 ((o1_1 : Int)))))))], [some (.arr 0 1 (o3.map eS))]⟩) ?_ ?_
      · have h := ho
        clear ho
        simp only [VW.down, Nat.reduceEqDiff, reduceCtorEq, Nat.reduceAdd, Nat.reduceLeDiff, Nat.reduceLT, Nat.reduceBEq, Nat.reduceSub, EE.down]
        refine t_idxF (enc := eS) (xs := x0) rfl rfl hxo1 rfl ?_
        simp only [VW.down, Nat.reduceEqDiff, reduceCtorEq, Nat.reduceAdd, Nat.reduceLeDiff, Nat.reduceLT, Nat.reduceBEq, Nat.reduceSub, EE.down]
        obtain ⟨t4, ht4, h⟩ := Option.bind_eq_some_iff.1 h
        refine callX_n [] (F14_ok ht4) ?_ ?_ ?_ ?_ ?_ ?_
        · first | rfl | simp [nrmA, nrmC, nrm, A1.ren, C.ren, rn, List.length_set]
        · simp [liveAll, A1.live, C.live]
        · rfl
        · decide
        · exact trivial
        simp only [VW.down, Nat.reduceEqDiff, reduceCtorEq, Nat.reduceAdd, Nat.reduceLeDiff, Nat.reduceLT, Nat.reduceBEq, Nat.reduceSub, EE.down]
        refine condB (fun c5 => ?_) (fun c5 => ?_)
        · have h := (if_pos c5).symm.trans h
          simp only [VW.down, Nat.reduceEqDiff, reduceCtorEq, Nat.reduceAdd, Nat.reduceLeDiff, Nat.reduceLT, Nat.reduceBEq, Nat.reduceSub, EE.down]
          refine t_idxF (enc := eS) (xs := x0) rfl rfl hxo1 rfl ?_
          simp only [VW.down, Nat.reduceEqDiff, reduceCtorEq, Nat.reduceAdd, Nat.reduceLeDiff, Nat.reduceLT, Nat.reduceBEq, Nat.reduceSub, EE.down]
          obtain ⟨t6, ht6, h⟩ := Option.bind_eq_some_iff.1 h
          refine callX_borF (F38_ok ht6) (by simp only [borAs, bors, hp, List.getElem?_cons_zero, List.getElem?_cons_succ, Option.join_some, List.drop_zero, bor_full', true_and, Nat.zero_add, List.length_map, Nat.le_refl, nrm, List.length_cons, List.length_nil, Nat.reduceAdd, Nat.reduceLeDiff, List.take_succ_cons, List.take_zero, List.take_nil, List.map_cons, List.map_nil, List.length_set, EE.down]) rfl ⟨flat_rows (enc := eS) (fun _ => rfl) _, trivial⟩ ?_
          simp only [VW.down, Nat.reduceEqDiff, reduceCtorEq, Nat.reduceAdd, Nat.reduceLeDiff, Nat.reduceLT, Nat.reduceBEq, Nat.reduceSub, EE.down]
          obtain rfl := Option.some.inj h
          exact eM [some 1] rfl
        · have h := (if_neg c5).symm.trans h
          simp only [VW.down, Nat.reduceEqDiff, reduceCtorEq, Nat.reduceAdd, Nat.reduceLeDiff, Nat.reduceLT, Nat.reduceBEq, Nat.reduceSub, EE.down]
          obtain rfl := Option.some.inj h
          exact eM [some 0] rfl
      · rintro _ rfl
        clear ho
        simp only [VW.down, Nat.reduceEqDiff, reduceCtorEq, Nat.reduceAdd, Nat.reduceLeDiff, Nat.reduceLT, Nat.reduceBEq, Nat.reduceSub, EE.down]
        rw [wrapN (by omega)]
        exact eL' (x0.length - (o1_1 + 1)) [some 0] ⟨o1_1 + 1, o3, ⟨by omega, rfl⟩, rfl, h⟩ (by omega)
    · rw [countN c2, F18_l1] at h
      simp only [VW.down, Nat.reduceEqDiff, reduceCtorEq, Nat.reduceAdd, Nat.reduceLeDiff, Nat.reduceLT, Nat.reduceBEq, Nat.reduceSub, EE.down]
      obtain rfl := Option.some.inj h
      exact eM [some 0] rfl
  · rintro _ rfl
    clear ho
    simp only [VW.down, Nat.reduceEqDiff, reduceCtorEq, Nat.reduceAdd, Nat.reduceLeDiff, Nat.reduceLT, Nat.reduceBEq, Nat.reduceSub, EE.down]
    obtain rfl := Option.some.inj h
    exact eF [some 0]

/- orchestrator/orchestratorref31.Done -/
def F26 (x0 : WorkQueue) (x1 : ByteArray) : Option ((List ByteArray) × (List ByteArray) × (List ByteArray) × (List WorkItem) × (List WorkItem)) := (F51 x0).bind fun t1 => (F14 t1.2.1 x1).bind fun t2 => (if (nb t2) = true then some ((t1.1, t1.2.1, t1.2.2.1, t1.2.2.2.1, t1.2.2.2.2)) else (F53 x1).bind fun t4 => (F18 t1.2.1 ([x1])).bind fun t5 => (F14 t1.2.2.1 x1).bind fun t6 => (if t6 = true then (F53 x1).bind fun t8 => (F18 t1.2.2.1 ([x1])).bind fun t9 => (apI t1.1 ([x1])).bind fun a10 => some ((a10, t5, t9, t1.2.2.2.1, t1.2.2.2.2)) else some ((t1.1, t5, t1.2.2.1, t1.2.2.2.1, t1.2.2.2.2))))
def a26 : AFn := ⟨37, [(.cell 4 (some 5))],
 (.seq (.reg [⟨(some 2), none, .box (.t 0), [], (.new [])⟩,
   ⟨(some 4), none, .zbox [.d (.v (.slice none 0 0)), .d (.v (.slice none 0 0)), .d (.v (.slice none 0 0)), .d (.v (.slice none 0 0)), .d (.v (.slice none 0 0))], [], (.new [])⟩])
 (.seq (.reg [⟨(some 6), none, .load (some 5) (.t 2), [], (.new [])⟩,
   ⟨(some 7), none, .call 51 [(.t 6)], [], (.new [])⟩,
   ⟨(some 5), none, .zbox [.d (.v (.slice none 0 0)), .d (.v (.slice none 0 0)), .d (.v (.slice none 0 0)), .d (.v (.slice none 0 0)), .d (.v (.slice none 0 0))], [], (.new [])⟩,
   ⟨none, none, .store 5 (.t 5) (.t 7), [], (.new [])⟩])
 (.seq (.seq (.reg [⟨(some 8), none, .fieldA 1 (.t 5), [], (.new [])⟩,
   ⟨(some 9), none, .load none (.t 8), [], (.new [])⟩,
   ⟨(some 10), none, .mv (.t 1), [], (.new [])⟩,
   ⟨(some 11), none, .call 14 [(.t 9), (.t 10)], [], (.new [])⟩,
   ⟨(some 12), none, .not (.t 11), [], (.new [])⟩])
 (.cond (.t 12)
 (.seq (.reg [⟨(some 13), none, .load (some 5) (.t 5), [], (.new [])⟩,
   ⟨none, none, .store 5 (.t 4) (.t 13), [], (.lone [5])⟩])
 .ret)
 .skip))
 (.seq (.regd [⟨(some 14), none, .fieldA 1 (.t 5), [], (.new [])⟩,
   ⟨(some 15), none, .load none (.t 14), [0], (.new [])⟩,
   ⟨(some 16), none, .mv (.t 1), [], (.new [])⟩,
   ⟨(some 17), none, .call 53 [(.t 16)], [2], (.lone [5, 14])⟩,
   ⟨(some 18), none, .call 18 [(.t 15), (.t 17)], [0, 1, 2, 3], (.lone [])⟩,
   ⟨(some 19), none, .fieldA 1 (.t 5), [0, 1, 2, 3, 4], (.new [])⟩,
   ⟨none, none, .store 1 (.t 19) (.t 18), [0, 1, 2, 3, 4, 5], (.lone [])⟩])
 (.seq (.seq (.reg [⟨(some 20), none, .fieldA 2 (.t 5), [], (.new [])⟩,
   ⟨(some 21), none, .load none (.t 20), [], (.new [])⟩,
   ⟨(some 22), none, .mv (.t 1), [], (.new [])⟩,
   ⟨(some 23), none, .call 14 [(.t 21), (.t 22)], [], (.lone [5, 20])⟩])
 (.cond (.t 23)
 (.seq (.regd [⟨(some 24), none, .fieldA 2 (.t 5), [], (.new [])⟩,
   ⟨(some 25), none, .load none (.t 24), [0], (.new [])⟩,
   ⟨(some 26), none, .mv (.t 1), [], (.new [])⟩,
   ⟨(some 27), none, .call 53 [(.t 26)], [2], (.lone [5, 24])⟩,
   ⟨(some 28), none, .call 18 [(.t 25), (.t 27)], [0, 1, 2, 3], (.lone [])⟩,
   ⟨(some 29), none, .fieldA 2 (.t 5), [0, 1, 2, 3, 4], (.new [])⟩,
   ⟨none, none, .store 1 (.t 29) (.t 28), [0, 1, 2, 3, 4, 5], (.lone [])⟩])
 (.reg [⟨(some 30), none, .fieldA 0 (.t 5), [], (.new [])⟩,
   ⟨(some 31), none, .load none (.t 30), [], (.new [])⟩,
   ⟨(some 32), none, .mv (.t 1), [], (.new [])⟩,
   ⟨(some 33), none, .bslice 1 [(.t 32)], [], (.new [])⟩,
   ⟨(some 34), none, .app 1 16 (.t 31) (.t 33), [], (.new [])⟩,
   ⟨(some 35), none, .fieldA 0 (.t 5), [], (.new [])⟩,
   ⟨none, none, .store 1 (.t 35) (.t 34), [], (.new [])⟩]))
 .skip))
 (.seq (.reg [⟨(some 36), none, .load (some 5) (.t 5), [], (.new [])⟩,
   ⟨none, none, .store 5 (.t 4) (.t 36), [], (.lone [5])⟩])
 .ret))))))⟩
theorem a26_ok : afn Try.prog 26 = some a26.er := by kernel_rfl
theorem F26_ok {x0 : WorkQueue} {x1 : ByteArray} {r : (List ByteArray) × (List ByteArray) × (List ByteArray) × (List WorkItem) × (List WorkItem)} (h : F26 x0 x1 = some r) : CallD Try.prog 26 [.agg [.d (.sl (x0.Ready.map eS)), .d (.sl (x0.Working.map eS)), .d (.sl (x0.Dirty.map eS)), .d (.sl (x0.Later.map eWorkItem)), .d (.sl (x0.Retries.map eWorkItem))], .c (.d (.v (.string x1)))] [] (tupV [.agg [.own 0 0 0 (r.1.length) none, .own 1 0 0 (r.2.1.length) none, .own 2 0 0 (r.2.2.1.length) none, .own 3 0 0 (r.2.2.2.1.length) none, .own 4 0 0 (r.2.2.2.2.length) none]]) [some (.arr 0 1 (r.1.map eS)), some (.arr 0 1 (r.2.1.map eS)), some (.arr 0 1 (r.2.2.1.map eS)), some (.arr 0 2 (r.2.2.2.1.map eWorkItem)), some (.arr 0 2 (r.2.2.2.2.map eWorkItem))] := by
  refine callS a26_ok (by simp [a26]) ?_
  rw [F26] at h
  simp only [a26, VW.down, Nat.reduceEqDiff, reduceCtorEq, Nat.reduceAdd, Nat.reduceLeDiff, Nat.reduceLT, Nat.reduceBEq, Nat.reduceSub, EE.down]
  obtain ⟨t1, ht1, h⟩ := Option.bind_eq_some_iff.1 h
  refine callX_n [] (F51_ok ht1) ?_ ?_ ?_ ?_ ?_ ?_
  · first | rfl | simp [nrmA, nrmC, nrm, A1.ren, C.ren, rn, List.length_set]
  · simp [liveAll, A1.live, C.live]
  · rfl
  · decide
  · exact trivial
  simp only [VW.down, Nat.reduceEqDiff, reduceCtorEq, Nat.reduceAdd, Nat.reduceLeDiff, Nat.reduceLT, Nat.reduceBEq, Nat.reduceSub, EE.down]
  obtain ⟨t2, ht2, h⟩ := Option.bind_eq_some_iff.1 h
  refine callX_bor (F14_ok ht2) (by simp only [borAs, bors, hp, List.getElem?_cons_zero, List.getElem?_cons_succ, Option.join_some, List.drop_zero, bor_full', true_and, Nat.zero_add, List.length_map, Nat.le_refl, nrm, List.length_cons, List.length_nil, Nat.reduceAdd, Nat.reduceLeDiff, List.take_succ_cons, List.take_zero, List.take_nil, List.map_cons, List.map_nil, List.length_set, EE.down]) rfl ?_
  simp only [VW.down, Nat.reduceEqDiff, reduceCtorEq, Nat.reduceAdd, Nat.reduceLeDiff, Nat.reduceLT, Nat.reduceBEq, Nat.reduceSub, EE.down]
  refine condB (fun c3 => ?_) (fun c3 => ?_)
  · have h := (if_pos c3).symm.trans h
    simp only [VW.down, Nat.reduceEqDiff, reduceCtorEq, Nat.reduceAdd, Nat.reduceLeDiff, Nat.reduceLT, Nat.reduceBEq, Nat.reduceSub, EE.down]
    obtain rfl := Option.some.inj h
    exact eF [some 2, some 3, some 4, some 5, some 6]
  · have h := (if_neg c3).symm.trans h
    simp only [VW.down, Nat.reduceEqDiff, reduceCtorEq, Nat.reduceAdd, Nat.reduceLeDiff, Nat.reduceLT, Nat.reduceBEq, Nat.reduceSub, EE.down]
    obtain ⟨t4, ht4, h⟩ := Option.bind_eq_some_iff.1 h
    refine callX_n [] (F53_ok ht4) ?_ ?_ ?_ ?_ ?_ ?_
    · first | rfl | simp [nrmA, nrmC, nrm, A1.ren, C.ren, rn, List.length_set]
    · simp [liveAll, A1.live, C.live]
    · rfl
    · decide
    · exact trivial
    simp only [VW.down, Nat.reduceEqDiff, reduceCtorEq, Nat.reduceAdd, Nat.reduceLeDiff, Nat.reduceLT, Nat.reduceBEq, Nat.reduceSub, EE.down]
    obtain ⟨t5, ht5, h⟩ := Option.bind_eq_some_iff.1 h
    refine callX_borF (F18_ok ht5) (by simp only [borAs, bors, hp, List.getElem?_cons_zero, List.getElem?_cons_succ, Option.join_some, List.drop_zero, bor_full', true_and, Nat.zero_add, List.length_map, Nat.le_refl, nrm, List.length_cons, List.length_nil, Nat.reduceAdd, Nat.reduceLeDiff, List.take_succ_cons, List.take_zero, List.take_nil, List.map_cons, List.map_nil, List.length_set, EE.down]) rfl ⟨flat_rows (enc := eS) (fun _ => rfl) _, trivial⟩ ?_
    simp only [VW.down, Nat.reduceEqDiff, reduceCtorEq, Nat.reduceAdd, Nat.reduceLeDiff, Nat.reduceLT, Nat.reduceBEq, Nat.reduceSub, EE.down]
    obtain ⟨t6, ht6, h⟩ := Option.bind_eq_some_iff.1 h
    refine callX_bor (F14_ok ht6) (by simp only [borAs, bors, hp, List.getElem?_cons_zero, List.getElem?_cons_succ, Option.join_some, List.drop_zero, bor_full', true_and, Nat.zero_add, List.length_map, Nat.le_refl, nrm, List.length_cons, List.length_nil, Nat.reduceAdd, Nat.reduceLeDiff, List.take_succ_cons, List.take_zero, List.take_nil, List.map_cons, List.map_nil, List.length_set, EE.down]) rfl ?_
    simp only [VW.down, Nat.reduceEqDiff, reduceCtorEq, Nat.reduceAdd, Nat.reduceLeDiff, Nat.reduceLT, Nat.reduceBEq, Nat.reduceSub, EE.down]
    refine condB (fun c7 => ?_) (fun c7 => ?_)
    · have h := (if_pos c7).symm.trans h
      simp only [VW.down, Nat.reduceEqDiff, reduceCtorEq, Nat.reduceAdd, Nat.reduceLeDiff, Nat.reduceLT, Nat.reduceBEq, Nat.reduceSub, EE.down]
      obtain ⟨t8, ht8, h⟩ := Option.bind_eq_some_iff.1 h
      refine callX_n [] (F53_ok ht8) ?_ ?_ ?_ ?_ ?_ ?_
      · first | rfl | simp [nrmA, nrmC, nrm, A1.ren, C.ren, rn, List.length_set]
      · simp [liveAll, A1.live, C.live]
      · rfl
      · decide
      · exact trivial
      simp only [VW.down, Nat.reduceEqDiff, reduceCtorEq, Nat.reduceAdd, Nat.reduceLeDiff, Nat.reduceLT, Nat.reduceBEq, Nat.reduceSub, EE.down]
      obtain ⟨t9, ht9, h⟩ := Option.bind_eq_some_iff.1 h
      refine callX_borF (F18_ok ht9) (by simp only [borAs, bors, hp, List.getElem?_cons_zero, List.getElem?_cons_succ, Option.join_some, List.drop_zero, bor_full', true_and, Nat.zero_add, List.length_map, Nat.le_refl, nrm, List.length_cons, List.length_nil, Nat.reduceAdd, Nat.reduceLeDiff, List.take_succ_cons, List.take_zero, List.take_nil, List.map_cons, List.map_nil, List.length_set, EE.down]) rfl ⟨flat_rows (enc := eS) (fun _ => rfl) _, trivial⟩ ?_
      simp only [VW.down, Nat.reduceEqDiff, reduceCtorEq, Nat.reduceAdd, Nat.reduceLeDiff, Nat.reduceLT, Nat.reduceBEq, Nat.reduceSub, EE.down]
      refine t_bslice (enc := eS) (ys := [x1]) rfl rfl (by simp [A1.cells]) rfl ?_
      simp only [VW.down, Nat.reduceEqDiff, reduceCtorEq, Nat.reduceAdd, Nat.reduceLeDiff, Nat.reduceLT, Nat.reduceBEq, Nat.reduceSub, EE.down]
      obtain ⟨a10, ha10, h⟩ := Option.bind_eq_some_iff.1 h
      refine t_app (enc := eS) (xs := t1.1) rfl rfl (by first | rfl | simp only [List.length_set] | exact (clrL_len (slI_len (by assumption))).symm) rfl (rows_full (enc := eS) (by first | rfl | simp only [List.length_set] | exact (clrL_len (slI_len (by assumption))).symm) rfl) ha10 ?_
      simp only [VW.down, Nat.reduceEqDiff, reduceCtorEq, Nat.reduceAdd, Nat.reduceLeDiff, Nat.reduceLT, Nat.reduceBEq, Nat.reduceSub, EE.down]
      obtain rfl := Option.some.inj h
      exact eF [some 2, some 9, some 11, some 5, some 6]
    · have h := (if_neg c7).symm.trans h
      simp only [VW.down, Nat.reduceEqDiff, reduceCtorEq, Nat.reduceAdd, Nat.reduceLeDiff, Nat.reduceLT, Nat.reduceBEq, Nat.reduceSub, EE.down]
      obtain rfl := Option.some.inj h
      exact eF [some 2, some 9, some 4, some 5, some 6]

/- orchestrator/orchestratorref30.clamp -/
def F71 (x0 : Int) (x1 : Int) : Option (Int) := (if x0 < 0 then some 0 else (if x1 < x0 then some x1 else some x0))
def a71 : AFn := ⟨12, [(.tmp 4)],
 (.seq (.reg [⟨(some 4), none, .mv (kI 0), [], (.new [])⟩])
 (.seq (.seq (.reg [⟨(some 5), none, .mv (.t 0), [], (.new [])⟩,
   ⟨(some 6), none, .bin .lss (.t 5) (kI 0), [], (.new [])⟩])
 (.cond (.t 6)
 (.seq (.reg [⟨(some 4), none, .mv (kI 0), [], (.new [])⟩])
 .ret)
 .skip))
 (.seq (.seq (.reg [⟨(some 7), none, .mv (.t 0), [], (.new [])⟩,
   ⟨(some 8), none, .mv (.t 1), [], (.new [])⟩,
   ⟨(some 9), none, .bin .gtr (.t 7) (.t 8), [], (.new [])⟩])
 (.cond (.t 9)
 (.seq (.reg [⟨(some 10), none, .mv (.t 1), [], (.new [])⟩,
   ⟨(some 4), none, .mv (.t 10), [], (.new [])⟩])
 .ret)
 .skip))
 (.seq (.reg [⟨(some 11), none, .mv (.t 0), [], (.new [])⟩,
   ⟨(some 4), none, .mv (.t 11), [], (.new [])⟩])
 .ret))))⟩
theorem a71_ok : afn Try.prog 71 = some a71.er := by kernel_rfl
theorem F71_ok {x0 : Int} {x1 : Int} {r : Int} (h : F71 x0 x1 = some r) : CallD Try.prog 71 [.c (.d (.v (.int .i64 x0))), .c (.d (.v (.int .i64 x1)))] [] (tupV [.c (.d (.v (.int .i64 r)))]) [] := by
  refine callS a71_ok (by simp [a71]) ?_
  rw [F71] at h
  simp only [a71, VW.down, Nat.reduceEqDiff, reduceCtorEq, Nat.reduceAdd, Nat.reduceLeDiff, Nat.reduceLT, Nat.reduceBEq, Nat.reduceSub, EE.down]
  refine condS (fun c1 => ?_) (fun c1 => ?_)
  · have h := (if_pos c1).symm.trans h
    simp only [VW.down, Nat.reduceEqDiff, reduceCtorEq, Nat.reduceAdd, Nat.reduceLeDiff, Nat.reduceLT, Nat.reduceBEq, Nat.reduceSub, EE.down]
    obtain rfl := Option.some.inj h
    exact eF []
  · have h := (if_neg c1).symm.trans h
    simp only [VW.down, Nat.reduceEqDiff, reduceCtorEq, Nat.reduceAdd, Nat.reduceLeDiff, Nat.reduceLT, Nat.reduceBEq, Nat.reduceSub, EE.down]
    refine condS (fun c2 => ?_) (fun c2 => ?_)
    · have h := (if_pos c2).symm.trans h
      simp only [VW.down, Nat.reduceEqDiff, reduceCtorEq, Nat.reduceAdd, Nat.reduceLeDiff, Nat.reduceLT, Nat.reduceBEq, Nat.reduceSub, EE.down]
      obtain rfl := Option.some.inj h
      exact eF []
    · have h := (if_neg c2).symm.trans h
      simp only [VW.down, Nat.reduceEqDiff, reduceCtorEq, Nat.reduceAdd, Nat.reduceLeDiff, Nat.reduceLT, Nat.reduceBEq, Nat.reduceSub, EE.down]
      obtain rfl := Option.some.inj h
      exact eF []

/- orchestrator/orchestratorref30.Delay -/
def F58_l4 (t2 : Int) (x2 : Int) : Nat → Int → Int → Option (Int)
  | 0, _, _ => none
  | k + 1, o4_0, o4_1 => (((if o4_1 < x2 then (if 0 < o4_0 then some (decide (o4_0 < t2)) else some false) else some false)).bind fun o5 => (if o5 = true then F58_l4 t2 x2 k ((IntKind.i64.wrap (2 * o4_0))) ((IntKind.i64.wrap (o4_1 + 1))) else some o4_0))
def F58 (x0 : Int) (x1 : Int) (x2 : Int) : Option (Int) := (F71 x0 1000000000000).bind fun t1 => (F71 x1 1000000000000).bind fun t2 => (if x2 < 1 then some 0 else ((F58_l4 t2 x2 1099511627776 t1 1).bind fun o4 => (if t2 < o4 then some t2 else some o4)))
def a58 : AFn := ⟨35, [(.tmp 6)],
 (.seq (.reg [⟨(some 6), none, .mv (kI 0), [], (.new [])⟩])
 (.seq (.reg [⟨(some 8), none, .mv (.t 0), [], (.new [])⟩,
   ⟨(some 9), none, .call 71 [(.t 8), (kI 1000000000000)], [], (.new [])⟩,
   ⟨(some 0), none, .mv (.t 9), [], (.new [])⟩])
 (.seq (.reg [⟨(some 10), none, .mv (.t 1), [], (.new [])⟩,
   ⟨(some 11), none, .call 71 [(.t 10), (kI 1000000000000)], [], (.new [])⟩,
   ⟨(some 1), none, .mv (.t 11), [], (.new [])⟩])
 (.seq (.seq (.reg [⟨(some 12), none, .mv (.t 2), [], (.new [])⟩,
   ⟨(some 13), none, .bin .lss (.t 12) (kI 1), [], (.new [])⟩])
 (.cond (.t 13)
 (.seq (.reg [⟨(some 6), none, .mv (kI 0), [], (.new [])⟩])
 .ret)
 .skip))
 (.seq (.seq (.reg [⟨(some 7), none, .mv (kI 1), [], (.new [])⟩])
 (.sem (.block 0 (.loop (.seq (.seq (.sem (.reg [⟨(some 14), none, .mv (.t 7), [], (.new [])⟩,
   ⟨(some 15), none, .mv (.t 2), [], (.new [])⟩,
   ⟨(some 16), none, .bin .lss (.t 14) (.t 15), [], (.new [])⟩,
   ⟨(some 17), none, .mv (.t 16), [], (.new [])⟩,
   ⟨(some 18), (some (17, true)), .mv (.t 0), [], (.new [])⟩,
   ⟨(some 19), (some (17, true)), .bin .gtr (.t 18) (kI 0), [], (.new [])⟩,
   ⟨(some 20), none, .pick (.t 17) (.t 19) (kB false), [], (.new [])⟩,
   ⟨(some 21), none, .mv (.t 20), [], (.new [])⟩,
   ⟨(some 22), (some (21, true)), .mv (.t 0), [], (.new [])⟩,
   ⟨(some 23), (some (21, true)), .mv (.t 1), [], (.new [])⟩,
   ⟨(some 24), (some (21, true)), .bin .lss (.t 22) (.t 23), [], (.new [])⟩,
   ⟨(some 25), none, .pick (.t 21) (.t 24) (kB false), [], (.new [])⟩]))
 (.cond (.t 25)
 .skip
 (.exit 0)))
 (.seq (.block 1 (.reg [⟨(some 28), none, .mv (.t 0), [], (.new [])⟩,
   ⟨(some 29), none, .bin .mul (kI 2) (.t 28), [], (.new [])⟩,
   ⟨(some 0), none, .mv (.t 29), [], (.new [])⟩]))
 (.reg [⟨(some 26), none, .mv (.t 7), [], (.new [])⟩,
   ⟨(some 27), none, .bin .add (.t 26) (kI 1), [], (.new [])⟩,
   ⟨(some 7), none, .mv (.t 27), [], (.new [])⟩])))))))
 (.seq (.seq (.reg [⟨(some 30), none, .mv (.t 0), [], (.new [])⟩,
   ⟨(some 31), none, .mv (.t 1), [], (.new [])⟩,
   ⟨(some 32), none, .bin .gtr (.t 30) (.t 31), [], (.new [])⟩])
 (.cond (.t 32)
 (.seq (.reg [⟨(some 33), none, .mv (.t 1), [], (.new [])⟩,
   ⟨(some 6), none, .mv (.t 33), [], (.new [])⟩])
 .ret)
 .skip))
 (.seq (.reg [⟨(some 34), none, .mv (.t 0), [], (.new [])⟩,
   ⟨(some 6), none, .mv (.t 34), [], (.new [])⟩])
 .ret)))))))⟩
theorem a58_ok : afn Try.prog 58 = some a58.er := by kernel_rfl
theorem F58_ok {x0 : Int} {x1 : Int} {x2 : Int} {r : Int} (h : F58 x0 x1 x2 = some r) : CallD Try.prog 58 [.c (.d (.v (.int .i64 x0))), .c (.d (.v (.int .i64 x1))), .c (.d (.v (.int .i64 x2)))] [] (tupV [.c (.d (.v (.int .i64 r)))]) [] := by
  refine callS a58_ok (by simp [a58]) ?_
  rw [F58] at h
  simp only [a58, VW.down, Nat.reduceEqDiff, reduceCtorEq, Nat.reduceAdd, Nat.reduceLeDiff, Nat.reduceLT, Nat.reduceBEq, Nat.reduceSub, EE.down]
  obtain ⟨t1, ht1, h⟩ := Option.bind_eq_some_iff.1 h
  refine callX_n [] (F71_ok ht1) ?_ ?_ ?_ ?_ ?_ ?_
  · first | rfl | simp [nrmA, nrmC, nrm, A1.ren, C.ren, rn, List.length_set]
  · simp [liveAll, A1.live, C.live]
  · rfl
  · decide
  · exact trivial
  simp only [VW.down, Nat.reduceEqDiff, reduceCtorEq, Nat.reduceAdd, Nat.reduceLeDiff, Nat.reduceLT, Nat.reduceBEq, Nat.reduceSub, EE.down]
  obtain ⟨t2, ht2, h⟩ := Option.bind_eq_some_iff.1 h
  refine callX_n [] (F71_ok ht2) ?_ ?_ ?_ ?_ ?_ ?_
  · first | rfl | simp [nrmA, nrmC, nrm, A1.ren, C.ren, rn, List.length_set]
  · simp [liveAll, A1.live, C.live]
  · rfl
  · decide
  · exact trivial
  simp only [VW.down, Nat.reduceEqDiff, reduceCtorEq, Nat.reduceAdd, Nat.reduceLeDiff, Nat.reduceLT, Nat.reduceBEq, Nat.reduceSub, EE.down]
  refine condS (fun c3 => ?_) (fun c3 => ?_)
  · have h := (if_pos c3).symm.trans h
    simp only [VW.down, Nat.reduceEqDiff, reduceCtorEq, Nat.reduceAdd, Nat.reduceLeDiff, Nat.reduceLT, Nat.reduceBEq, Nat.reduceSub, EE.down]
    obtain rfl := Option.some.inj h
    exact eF []
  · have h := (if_neg c3).symm.trans h
    simp only [VW.down, Nat.reduceEqDiff, reduceCtorEq, Nat.reduceAdd, Nat.reduceLeDiff, Nat.reduceLT, Nat.reduceBEq, Nat.reduceSub, EE.down]
    obtain ⟨o4, ho, h⟩ := Option.bind_eq_some_iff.1 h
    refine cutS (fun s => s = ⟨[(0, .one (.c (.d (.v (.int .i64 o4))))), (1, .one (.c (.d (.v (.int .i64 t2)))))], []⟩) ?_ ?_
    · have h := ho
      clear ho
      simp only [VW.down, Nat.reduceEqDiff, reduceCtorEq, Nat.reduceAdd, Nat.reduceLeDiff, Nat.reduceLT, Nat.reduceBEq, Nat.reduceSub, EE.down]
      refine bL (fun j s => ∃ (o4_0 : Int) (o4_1 : Int), s = ⟨[(0, .one (.c (.d (.v (.int .i64 o4_0))))), (1, .one (.c (.d (.v (.int .i64 t2))))), (2, .one (.c (.d (.v (.int .i64 x2))))), (7, .one (.c (.d (.v (.int .i64 o4_1)))))], []⟩ ∧ F58_l4 t2 x2 j o4_0 o4_1 = some o4) 1099511627776 [] ⟨t1, 1, rfl, h⟩ ?_
      rintro j _ ⟨o4_0, o4_1, rfl, h⟩
      cases j with
      | zero => cases (show (none : Option _) = some _ from h)
      | succ j =>
        rw [F58_l4] at h
        simp only [VW.down, Nat.reduceEqDiff, reduceCtorEq, Nat.reduceAdd, Nat.reduceLeDiff, Nat.reduceLT, Nat.reduceBEq, Nat.reduceSub, EE.down]
        obtain ⟨o5, ho, h⟩ := Option.bind_eq_some_iff.1 h
        refine cutS (fun s => s = ⟨[(0, .one (.c (.d (.v (.int .i64 o4_0))))), (1, .one (.c (.d (.v (.int .i64 t2))))), (2, .one (.c (.d (.v (.int .i64 x2))))), (7, .one (.c (.d (.v (.int .i64 o4_1))))), (25, .one (.c (.d (.v (.bool o5)))))], []⟩) ?_ ?_
        · have h := ho
          clear ho
          simp only [VW.down, Nat.reduceEqDiff, reduceCtorEq, Nat.reduceAdd, Nat.reduceLeDiff, Nat.reduceLT, Nat.reduceBEq, Nat.reduceSub, EE.down]
          refine guardS (fun g6 => ?_) (fun g6 => ?_)
          · have h := (if_pos g6).symm.trans h
            simp only [VW.down, Nat.reduceEqDiff, reduceCtorEq, Nat.reduceAdd, Nat.reduceLeDiff, Nat.reduceLT, Nat.reduceBEq, Nat.reduceSub, EE.down]
            refine guardS (fun g7 => ?_) (fun g7 => ?_)
            · have h := (if_pos g7).symm.trans h
              simp only [VW.down, Nat.reduceEqDiff, reduceCtorEq, Nat.reduceAdd, Nat.reduceLeDiff, Nat.reduceLT, Nat.reduceBEq, Nat.reduceSub, EE.down]
              obtain rfl := Option.some.inj h
              exact eM [] rfl
            · have h := (if_neg g7).symm.trans h
              simp only [VW.down, Nat.reduceEqDiff, reduceCtorEq, Nat.reduceAdd, Nat.reduceLeDiff, Nat.reduceLT, Nat.reduceBEq, Nat.reduceSub, EE.down]
              obtain rfl := Option.some.inj h
              exact eM [] rfl
          · have h := (if_neg g6).symm.trans h
            simp only [VW.down, Nat.reduceEqDiff, reduceCtorEq, Nat.reduceAdd, Nat.reduceLeDiff, Nat.reduceLT, Nat.reduceBEq, Nat.reduceSub, EE.down]
            obtain rfl := Option.some.inj h
            exact eM [] rfl
        · rintro _ rfl
          clear ho
          simp only [VW.down, Nat.reduceEqDiff, reduceCtorEq, Nat.reduceAdd, Nat.reduceLeDiff, Nat.reduceLT, Nat.reduceBEq, Nat.reduceSub, EE.down]
          refine condB (fun c8 => ?_) (fun c8 => ?_)
          · have h := (if_pos c8).symm.trans h
            simp only [VW.down, Nat.reduceEqDiff, reduceCtorEq, Nat.reduceAdd, Nat.reduceLeDiff, Nat.reduceLT, Nat.reduceBEq, Nat.reduceSub, EE.down]
            exact eL' j [] ⟨(IntKind.i64.wrap (2 * o4_0)), (IntKind.i64.wrap (o4_1 + 1)), rfl, h⟩ (Nat.lt_succ_self _)
          · have h := (if_neg c8).symm.trans h
            simp only [VW.down, Nat.reduceEqDiff, reduceCtorEq, Nat.reduceAdd, Nat.reduceLeDiff, Nat.reduceLT, Nat.reduceBEq, Nat.reduceSub, EE.down]
            obtain rfl := Option.some.inj h
            exact eM [] rfl
    · rintro _ rfl
      clear ho
      simp only [VW.down, Nat.reduceEqDiff, reduceCtorEq, Nat.reduceAdd, Nat.reduceLeDiff, Nat.reduceLT, Nat.reduceBEq, Nat.reduceSub, EE.down]
      refine condS (fun c9 => ?_) (fun c9 => ?_)
      · have h := (if_pos c9).symm.trans h
        simp only [VW.down, Nat.reduceEqDiff, reduceCtorEq, Nat.reduceAdd, Nat.reduceLeDiff, Nat.reduceLT, Nat.reduceBEq, Nat.reduceSub, EE.down]
        obtain rfl := Option.some.inj h
        exact eF []
      · have h := (if_neg c9).symm.trans h
        simp only [VW.down, Nat.reduceEqDiff, reduceCtorEq, Nat.reduceAdd, Nat.reduceLeDiff, Nat.reduceLT, Nat.reduceBEq, Nat.reduceSub, EE.down]
        obtain rfl := Option.some.inj h
        exact eF []

/- orchestrator/orchestratorref31.Fail -/
def F27 (x0 : WorkQueue) (x1 : ByteArray) (x2 : Int) (x3 : Int) (x4 : Int) : Option ((List ByteArray) × (List ByteArray) × (List ByteArray) × (List WorkItem) × (List WorkItem)) := (F51 x0).bind fun t1 => (F55 t1.2.2.2.2 x1).bind fun t2 => (F57 t1.2.2.2.2 x1).bind fun t3 => (F56 t3 ((⟨x1, (if 1000000000000000 < (IntKind.i64.wrap (t2.1 + 1)) then 1000000000000000 else (IntKind.i64.wrap (t2.1 + 1)))⟩ : WorkItem)) false).bind fun t4 => (F54 x2 0 1000000000000).bind fun t5 => (F58 x3 x4 ((if 1000000000000000 < (IntKind.i64.wrap (t2.1 + 1)) then 1000000000000000 else (IntKind.i64.wrap (t2.1 + 1))))).bind fun t6 => (F24 ((⟨t1.1, t1.2.1, t1.2.2.1, t1.2.2.2.1, t4⟩ : WorkQueue)) x1 ((IntKind.i64.wrap (((if 1000000000000 < (if x2 < 0 then 0 else x2) then 1000000000000 else (if x2 < 0 then 0 else x2))) + t6)))).bind fun t7 => some ((t7.1, t7.2.1, t7.2.2.1, t7.2.2.2.1, t7.2.2.2.2))
def a27 : AFn := ⟨45, [(.cell 10 (some 5))],
 (.seq (.reg [⟨(some 5), none, .box (.t 0), [], (.new [])⟩,
   ⟨(some 10), none, .zbox [.d (.v (.slice none 0 0)), .d (.v (.slice none 0 0)), .d (.v (.slice none 0 0)), .d (.v (.slice none 0 0)), .d (.v (.slice none 0 0))], [], (.new [])⟩])
 (.seq (.reg [⟨(some 14), none, .load (some 5) (.t 5), [], (.new [])⟩,
   ⟨(some 15), none, .call 51 [(.t 14)], [], (.new [])⟩,
   ⟨(some 11), none, .zbox [.d (.v (.slice none 0 0)), .d (.v (.slice none 0 0)), .d (.v (.slice none 0 0)), .d (.v (.slice none 0 0)), .d (.v (.slice none 0 0))], [], (.new [])⟩,
   ⟨none, none, .store 5 (.t 11) (.t 15), [], (.new [])⟩])
 (.seq (.reg [⟨(some 17), none, .fieldA 4 (.t 11), [], (.new [])⟩,
   ⟨(some 18), none, .load none (.t 17), [], (.new [])⟩,
   ⟨(some 19), none, .mv (.t 1), [], (.new [])⟩,
   ⟨(some 20), none, .call 55 [(.t 18), (.t 19)], [], (.new [])⟩,
   ⟨(some 16), none, .mv (.t 20), [], (.new [])⟩,
   ⟨(some 21), none, .ext (.t 16) 0, [], (.new [])⟩,
   ⟨(some 22), none, .ext (.t 16) 1, [], (.new [])⟩,
   ⟨(some 12), none, .mv (.t 21), [], (.new [])⟩,
   ⟨(some 13), none, .mv (.t 22), [], (.new [])⟩])
 (.seq (.reg [⟨(some 23), none, .mv (.t 12), [], (.new [])⟩,
   ⟨(some 24), none, .bin .add (.t 23) (kI 1), [], (.new [])⟩,
   ⟨(some 25), none, .min (.t 24) (kI 1000000000000000), [], (.new [])⟩,
   ⟨(some 12), none, .mv (.t 25), [], (.new [])⟩])
 (.seq (.reg [⟨(some 26), none, .fieldA 4 (.t 11), [], (.new [])⟩,
   ⟨(some 27), none, .load none (.t 26), [], (.new [])⟩,
   ⟨(some 28), none, .mv (.t 1), [], (.new [])⟩,
   ⟨(some 29), none, .call 57 [(.t 27), (.t 28)], [], (.new [])⟩,
   ⟨(some 30), none, .mv (.t 1), [], (.new [])⟩,
   ⟨(some 31), none, .mv (.t 12), [], (.new [])⟩,
   ⟨(some 32), none, .build [.d (.v (.string ⟨#[]⟩)), .d (.v (.int .i64 0))] [(0, 1, (.t 30)), (1, 1, (.t 31))], [], (.new [])⟩,
   ⟨(some 33), none, .call 56 [(.t 29), (.t 32), (kB false)], [], (.new [])⟩,
   ⟨(some 34), none, .fieldA 4 (.t 11), [], (.new [])⟩,
   ⟨none, none, .store 1 (.t 34) (.t 33), [], (.new [])⟩])
 (.seq (.regd [⟨(some 35), none, .load (some 5) (.t 11), [], (.new [])⟩,
   ⟨(some 36), none, .mv (.t 1), [], (.new [])⟩,
   ⟨(some 37), none, .mv (.t 2), [], (.new [])⟩,
   ⟨(some 38), none, .call 54 [(.t 37), (kI 0), (kI 1000000000000)], [2], (.new [2])⟩,
   ⟨(some 39), none, .mv (.t 3), [], (.new [])⟩,
   ⟨(some 40), none, .mv (.t 4), [], (.new [])⟩,
   ⟨(some 41), none, .mv (.t 12), [], (.new [])⟩,
   ⟨(some 42), none, .call 58 [(.t 39), (.t 40), (.t 41)], [2, 3, 4, 5, 6], (.lone [11])⟩,
   ⟨(some 43), none, .bin .add (.t 38) (.t 42), [2, 3, 4, 5, 6, 7], (.new [])⟩,
   ⟨(some 44), none, .call 24 [(.t 35), (.t 36), (.t 43)], [0, 1, 2, 3, 4, 5, 6, 7, 8], (.lone [])⟩,
   ⟨none, none, .store 5 (.t 10) (.t 44), [0, 1, 2, 3, 4, 5, 6, 7, 8, 9], (.lone [])⟩])
 .ret))))))⟩
theorem a27_ok : afn Try.prog 27 = some a27.er := by kernel_rfl
theorem F27_ok {x0 : WorkQueue} {x1 : ByteArray} {x2 : Int} {x3 : Int} {x4 : Int} {r : (List ByteArray) × (List ByteArray) × (List ByteArray) × (List WorkItem) × (List WorkItem)} (h : F27 x0 x1 x2 x3 x4 = some r) : CallD Try.prog 27 [.agg [.d (.sl (x0.Ready.map eS)), .d (.sl (x0.Working.map eS)), .d (.sl (x0.Dirty.map eS)), .d (.sl (x0.Later.map eWorkItem)), .d (.sl (x0.Retries.map eWorkItem))], .c (.d (.v (.string x1))), .c (.d (.v (.int .i64 x2))), .c (.d (.v (.int .i64 x3))), .c (.d (.v (.int .i64 x4)))] [] (tupV [.agg [.own 0 0 0 (r.1.length) none, .own 1 0 0 (r.2.1.length) none, .own 2 0 0 (r.2.2.1.length) none, .own 3 0 0 (r.2.2.2.1.length) none, .own 4 0 0 (r.2.2.2.2.length) none]]) [some (.arr 0 1 (r.1.map eS)), some (.arr 0 1 (r.2.1.map eS)), some (.arr 0 1 (r.2.2.1.map eS)), some (.arr 0 2 (r.2.2.2.1.map eWorkItem)), some (.arr 0 2 (r.2.2.2.2.map eWorkItem))] := by
  refine callS a27_ok (by simp [a27]) ?_
  rw [F27] at h
  simp only [a27, VW.down, Nat.reduceEqDiff, reduceCtorEq, Nat.reduceAdd, Nat.reduceLeDiff, Nat.reduceLT, Nat.reduceBEq, Nat.reduceSub, EE.down]
  obtain ⟨t1, ht1, h⟩ := Option.bind_eq_some_iff.1 h
  refine callX_n [] (F51_ok ht1) ?_ ?_ ?_ ?_ ?_ ?_
  · first | rfl | simp [nrmA, nrmC, nrm, A1.ren, C.ren, rn, List.length_set]
  · simp [liveAll, A1.live, C.live]
  · rfl
  · decide
  · exact trivial
  simp only [VW.down, Nat.reduceEqDiff, reduceCtorEq, Nat.reduceAdd, Nat.reduceLeDiff, Nat.reduceLT, Nat.reduceBEq, Nat.reduceSub, EE.down]
  obtain ⟨t2, ht2, h⟩ := Option.bind_eq_some_iff.1 h
  refine callX_bor (F55_ok ht2) (by simp only [borAs, bors, hp, List.getElem?_cons_zero, List.getElem?_cons_succ, Option.join_some, List.drop_zero, bor_full', true_and, Nat.zero_add, List.length_map, Nat.le_refl, nrm, List.length_cons, List.length_nil, Nat.reduceAdd, Nat.reduceLeDiff, List.take_succ_cons, List.take_zero, List.take_nil, List.map_cons, List.map_nil, List.length_set, EE.down]) rfl ?_
  simp only [VW.down, Nat.reduceEqDiff, reduceCtorEq, Nat.reduceAdd, Nat.reduceLeDiff, Nat.reduceLT, Nat.reduceBEq, Nat.reduceSub, EE.down]
  obtain ⟨t3, ht3, h⟩ := Option.bind_eq_some_iff.1 h
  refine callX_borF (F57_ok ht3) (by simp only [borAs, bors, hp, List.getElem?_cons_zero, List.getElem?_cons_succ, Option.join_some, List.drop_zero, bor_full', true_and, Nat.zero_add, List.length_map, Nat.le_refl, nrm, List.length_cons, List.length_nil, Nat.reduceAdd, Nat.reduceLeDiff, List.take_succ_cons, List.take_zero, List.take_nil, List.map_cons, List.map_nil, List.length_set, EE.down]) rfl ⟨flat_rows (enc := eWorkItem) (fun _ => rfl) _, trivial⟩ ?_
  simp only [VW.down, Nat.reduceEqDiff, reduceCtorEq, Nat.reduceAdd, Nat.reduceLeDiff, Nat.reduceLT, Nat.reduceBEq, Nat.reduceSub, EE.down]
  obtain ⟨t4, ht4, h⟩ := Option.bind_eq_some_iff.1 h
  refine callX_borF (F56_ok ht4) (by simp only [borAs, bors, hp, List.getElem?_cons_zero, List.getElem?_cons_succ, Option.join_some, List.drop_zero, bor_full', true_and, Nat.zero_add, List.length_map, Nat.le_refl, nrm, List.length_cons, List.length_nil, Nat.reduceAdd, Nat.reduceLeDiff, List.take_succ_cons, List.take_zero, List.take_nil, List.map_cons, List.map_nil, List.length_set, EE.down]) rfl ⟨flat_rows (enc := eWorkItem) (fun _ => rfl) _, trivial⟩ ?_
  simp only [VW.down, Nat.reduceEqDiff, reduceCtorEq, Nat.reduceAdd, Nat.reduceLeDiff, Nat.reduceLT, Nat.reduceBEq, Nat.reduceSub, EE.down]
  obtain ⟨t5, ht5, h⟩ := Option.bind_eq_some_iff.1 h
  refine callX_n [] (F54_ok ht5) ?_ ?_ ?_ ?_ ?_ ?_
  · first | rfl | simp [nrmA, nrmC, nrm, A1.ren, C.ren, rn, List.length_set]
  · simp [liveAll, A1.live, C.live]
  · rfl
  · decide
  · exact trivial
  simp only [VW.down, Nat.reduceEqDiff, reduceCtorEq, Nat.reduceAdd, Nat.reduceLeDiff, Nat.reduceLT, Nat.reduceBEq, Nat.reduceSub, EE.down]
  obtain ⟨t6, ht6, h⟩ := Option.bind_eq_some_iff.1 h
  refine callX_n [] (F58_ok ht6) ?_ ?_ ?_ ?_ ?_ ?_
  · first | rfl | simp [nrmA, nrmC, nrm, A1.ren, C.ren, rn, List.length_set]
  · simp [liveAll, A1.live, C.live]
  · rfl
  · decide
  · exact trivial
  simp only [VW.down, Nat.reduceEqDiff, reduceCtorEq, Nat.reduceAdd, Nat.reduceLeDiff, Nat.reduceLT, Nat.reduceBEq, Nat.reduceSub, EE.down]
  obtain ⟨t7, ht7, h⟩ := Option.bind_eq_some_iff.1 h
  refine callX_borF (F24_ok ht7) (by simp only [borAs, bors, hp, List.getElem?_cons_zero, List.getElem?_cons_succ, Option.join_some, List.drop_zero, bor_full', true_and, Nat.zero_add, List.length_map, Nat.le_refl, nrm, List.length_cons, List.length_nil, Nat.reduceAdd, Nat.reduceLeDiff, List.take_succ_cons, List.take_zero, List.take_nil, List.map_cons, List.map_nil, List.length_set, EE.down]) rfl ⟨flat_rows (enc := eS) (fun _ => rfl) _, flat_rows (enc := eS) (fun _ => rfl) _, flat_rows (enc := eS) (fun _ => rfl) _, flat_rows (enc := eWorkItem) (fun _ => rfl) _, flat_rows (enc := eWorkItem) (fun _ => rfl) _, trivial⟩ ?_
  simp only [VW.down, Nat.reduceEqDiff, reduceCtorEq, Nat.reduceAdd, Nat.reduceLeDiff, Nat.reduceLT, Nat.reduceBEq, Nat.reduceSub, EE.down]
  obtain rfl := Option.some.inj h
  exact eF [some 10, some 11, some 12, some 13, some 14]

/- orchestrator/orchestratorref31.Forget -/
def F28 (x0 : WorkQueue) (x1 : ByteArray) : Option ((List ByteArray) × (List ByteArray) × (List ByteArray) × (List WorkItem) × (List WorkItem)) := (F51 x0).bind fun t1 => (F57 t1.2.2.2.2 x1).bind fun t2 => some ((t1.1, t1.2.1, t1.2.2.1, t1.2.2.2.1, t2))
def a28 : AFn := ⟨14, [(.cell 4 (some 5))],
 (.seq (.reg [⟨(some 2), none, .box (.t 0), [], (.new [])⟩,
   ⟨(some 4), none, .zbox [.d (.v (.slice none 0 0)), .d (.v (.slice none 0 0)), .d (.v (.slice none 0 0)), .d (.v (.slice none 0 0)), .d (.v (.slice none 0 0))], [], (.new [])⟩])
 (.seq (.reg [⟨(some 6), none, .load (some 5) (.t 2), [], (.new [])⟩,
   ⟨(some 7), none, .call 51 [(.t 6)], [], (.new [])⟩,
   ⟨(some 5), none, .zbox [.d (.v (.slice none 0 0)), .d (.v (.slice none 0 0)), .d (.v (.slice none 0 0)), .d (.v (.slice none 0 0)), .d (.v (.slice none 0 0))], [], (.new [])⟩,
   ⟨none, none, .store 5 (.t 5) (.t 7), [], (.new [])⟩])
 (.seq (.reg [⟨(some 8), none, .fieldA 4 (.t 5), [], (.new [])⟩,
   ⟨(some 9), none, .load none (.t 8), [], (.new [])⟩,
   ⟨(some 10), none, .mv (.t 1), [], (.new [])⟩,
   ⟨(some 11), none, .call 57 [(.t 9), (.t 10)], [], (.new [])⟩,
   ⟨(some 12), none, .fieldA 4 (.t 5), [], (.new [])⟩,
   ⟨none, none, .store 1 (.t 12) (.t 11), [], (.new [])⟩])
 (.seq (.reg [⟨(some 13), none, .load (some 5) (.t 5), [], (.new [])⟩,
   ⟨none, none, .store 5 (.t 4) (.t 13), [], (.lone [5])⟩])
 .ret))))⟩
theorem a28_ok : afn Try.prog 28 = some a28.er := by kernel_rfl
theorem F28_ok {x0 : WorkQueue} {x1 : ByteArray} {r : (List ByteArray) × (List ByteArray) × (List ByteArray) × (List WorkItem) × (List WorkItem)} (h : F28 x0 x1 = some r) : CallD Try.prog 28 [.agg [.d (.sl (x0.Ready.map eS)), .d (.sl (x0.Working.map eS)), .d (.sl (x0.Dirty.map eS)), .d (.sl (x0.Later.map eWorkItem)), .d (.sl (x0.Retries.map eWorkItem))], .c (.d (.v (.string x1)))] [] (tupV [.agg [.own 0 0 0 (r.1.length) none, .own 1 0 0 (r.2.1.length) none, .own 2 0 0 (r.2.2.1.length) none, .own 3 0 0 (r.2.2.2.1.length) none, .own 4 0 0 (r.2.2.2.2.length) none]]) [some (.arr 0 1 (r.1.map eS)), some (.arr 0 1 (r.2.1.map eS)), some (.arr 0 1 (r.2.2.1.map eS)), some (.arr 0 2 (r.2.2.2.1.map eWorkItem)), some (.arr 0 2 (r.2.2.2.2.map eWorkItem))] := by
  refine callS a28_ok (by simp [a28]) ?_
  rw [F28] at h
  simp only [a28, VW.down, Nat.reduceEqDiff, reduceCtorEq, Nat.reduceAdd, Nat.reduceLeDiff, Nat.reduceLT, Nat.reduceBEq, Nat.reduceSub, EE.down]
  obtain ⟨t1, ht1, h⟩ := Option.bind_eq_some_iff.1 h
  refine callX_n [] (F51_ok ht1) ?_ ?_ ?_ ?_ ?_ ?_
  · first | rfl | simp [nrmA, nrmC, nrm, A1.ren, C.ren, rn, List.length_set]
  · simp [liveAll, A1.live, C.live]
  · rfl
  · decide
  · exact trivial
  simp only [VW.down, Nat.reduceEqDiff, reduceCtorEq, Nat.reduceAdd, Nat.reduceLeDiff, Nat.reduceLT, Nat.reduceBEq, Nat.reduceSub, EE.down]
  obtain ⟨t2, ht2, h⟩ := Option.bind_eq_some_iff.1 h
  refine callX_borF (F57_ok ht2) (by simp only [borAs, bors, hp, List.getElem?_cons_zero, List.getElem?_cons_succ, Option.join_some, List.drop_zero, bor_full', true_and, Nat.zero_add, List.length_map, Nat.le_refl, nrm, List.length_cons, List.length_nil, Nat.reduceAdd, Nat.reduceLeDiff, List.take_succ_cons, List.take_zero, List.take_nil, List.map_cons, List.map_nil, List.length_set, EE.down]) rfl ⟨flat_rows (enc := eWorkItem) (fun _ => rfl) _, trivial⟩ ?_
  simp only [VW.down, Nat.reduceEqDiff, reduceCtorEq, Nat.reduceAdd, Nat.reduceLeDiff, Nat.reduceLT, Nat.reduceBEq, Nat.reduceSub, EE.down]
  obtain rfl := Option.some.inj h
  exact eF [some 2, some 3, some 4, some 5, some 8]

/- orchestrator/orchestratorref31.Advance -/
def F29_l2 (x1 : Int) : Nat → (List ByteArray) → (List ByteArray) → (List ByteArray) → (List WorkItem) → (List WorkItem) → Option ((List ByteArray) × (List ByteArray) × (List ByteArray) × (List WorkItem) × (List WorkItem))
  | 0, _, _, _, _, _ => none
  | k + 1, o2_0, o2_1, o2_2, o2_3, o2_4 => (((if 0 < (o2_3.length : Int) then (rdI o2_3 0).bind fun y5 => some (decide (y5.At ≤ x1)) else some false)).bind fun o3 => (if o3 = true then (rdI o2_3 0).bind fun y7 => (slI o2_3 1 ((o2_3.length : Int))).bind fun s8 => (F23 ((⟨o2_0, o2_1, o2_2, s8, o2_4⟩ : WorkQueue)) y7.Key).bind fun t9 => F29_l2 x1 k t9.1 t9.2.1 t9.2.2.1 t9.2.2.2.1 t9.2.2.2.2 else some ((o2_0, o2_1, o2_2, o2_3, o2_4))))
def F29 (x0 : WorkQueue) (x1 : Int) : Option ((List ByteArray) × (List ByteArray) × (List ByteArray) × (List WorkItem) × (List WorkItem)) := (F51 x0).bind fun t1 => ((F29_l2 x1 1099511627776 t1.1 t1.2.1 t1.2.2.1 t1.2.2.2.1 t1.2.2.2.2).bind fun o2 => some ((o2.1, o2.2.1, o2.2.2.1, o2.2.2.2.1, o2.2.2.2.2)))
def a29 : AFn := ⟨35, [(.cell 4 (some 5))],
 (.seq (.reg [⟨(some 2), none, .box (.t 0), [], (.new [])⟩,
   ⟨(some 4), none, .zbox [.d (.v (.slice none 0 0)), .d (.v (.slice none 0 0)), .d (.v (.slice none 0 0)), .d (.v (.slice none 0 0)), .d (.v (.slice none 0 0))], [], (.new [])⟩])
 (.seq (.reg [⟨(some 7), none, .load (some 5) (.t 2), [], (.new [])⟩,
   ⟨(some 8), none, .call 51 [(.t 7)], [], (.new [])⟩,
   ⟨(some 5), none, .zbox [.d (.v (.slice none 0 0)), .d (.v (.slice none 0 0)), .d (.v (.slice none 0 0)), .d (.v (.slice none 0 0)), .d (.v (.slice none 0 0))], [], (.new [])⟩,
   ⟨none, none, .store 5 (.t 5) (.t 8), [], (.new [])⟩])
 (.seq (.sem (.block 0 (.loop (.seq (.seq (.sem (.reg [⟨(some 9), none, .fieldA 3 (.t 5), [], (.new [])⟩,
   ⟨(some 10), none, .load none (.t 9), [], (.new [])⟩,
   ⟨(some 11), none, .len (.t 10), [], (.new [])⟩,
   ⟨(some 12), none, .bin .gtr (.t 11) (kI 0), [], (.new [])⟩,
   ⟨(some 13), none, .mv (.t 12), [], (.new [])⟩,
   ⟨(some 14), (some (13, true)), .fieldA 3 (.t 5), [], (.new [])⟩,
   ⟨(some 15), (some (13, true)), .load none (.t 14), [], (.new [])⟩,
   ⟨(some 16), (some (13, true)), .indexA 2 (.t 15) (kI 0), [], (.new [])⟩,
   ⟨(some 17), (some (13, true)), .fieldA 1 (.t 16), [], (.new [])⟩,
   ⟨(some 18), (some (13, true)), .load none (.t 17), [], (.new [])⟩,
   ⟨(some 19), (some (13, true)), .mv (.t 1), [], (.new [])⟩,
   ⟨(some 20), (some (13, true)), .bin .leq (.t 18) (.t 19), [], (.new [])⟩,
   ⟨(some 21), none, .pick (.t 13) (.t 20) (kB false), [], (.lone [5, 9, 10, 5, 14, 15, 16, 17])⟩]))
 (.cond (.t 21)
 .skip
 (.exit 0)))
 (.block 1 (.seq (.reg [⟨(some 22), none, .fieldA 3 (.t 5), [], (.new [])⟩,
   ⟨(some 23), none, .load none (.t 22), [], (.new [])⟩,
   ⟨(some 24), none, .indexA 2 (.t 23) (kI 0), [], (.new [])⟩,
   ⟨(some 25), none, .fieldA 0 (.t 24), [], (.new [])⟩,
   ⟨(some 26), none, .load none (.t 25), [], (.new [])⟩,
   ⟨(some 6), none, .mv (.t 26), [], (.new [])⟩])
 (.seq (.reg [⟨(some 27), none, .fieldA 3 (.t 5), [], (.new [])⟩,
   ⟨(some 28), none, .load none (.t 27), [], (.new [])⟩,
   ⟨(some 29), none, .slice 2 (.t 28) (some (kI 1)) none none, [], (.new [])⟩,
   ⟨(some 30), none, .fieldA 3 (.t 5), [], (.new [])⟩,
   ⟨none, none, .store 1 (.t 30) (.t 29), [], (.new [])⟩])
 (.reg [⟨(some 31), none, .load (some 5) (.t 5), [], (.new [])⟩,
   ⟨(some 32), none, .mv (.t 6), [], (.new [])⟩,
   ⟨(some 33), none, .call 23 [(.t 31), (.t 32)], [], (.new [])⟩,
   ⟨none, none, .store 5 (.t 5) (.t 33), [], (.new [])⟩]))))))))
 (.seq (.reg [⟨(some 34), none, .load (some 5) (.t 5), [], (.new [])⟩,
   ⟨none, none, .store 5 (.t 4) (.t 34), [], (.lone [5])⟩])
 .ret))))⟩
theorem a29_ok : afn Try.prog 29 = some a29.er := by kernel_rfl
theorem F29_ok {x0 : WorkQueue} {x1 : Int} {r : (List ByteArray) × (List ByteArray) × (List ByteArray) × (List WorkItem) × (List WorkItem)} (h : F29 x0 x1 = some r) : CallD Try.prog 29 [.agg [.d (.sl (x0.Ready.map eS)), .d (.sl (x0.Working.map eS)), .d (.sl (x0.Dirty.map eS)), .d (.sl (x0.Later.map eWorkItem)), .d (.sl (x0.Retries.map eWorkItem))], .c (.d (.v (.int .i64 x1)))] [] (tupV [.agg [.own 0 0 0 (r.1.length) none, .own 1 0 0 (r.2.1.length) none, .own 2 0 0 (r.2.2.1.length) none, .own 3 0 0 (r.2.2.2.1.length) none, .own 4 0 0 (r.2.2.2.2.length) none]]) [some (.arr 0 1 (r.1.map eS)), some (.arr 0 1 (r.2.1.map eS)), some (.arr 0 1 (r.2.2.1.map eS)), some (.arr 0 2 (r.2.2.2.1.map eWorkItem)), some (.arr 0 2 (r.2.2.2.2.map eWorkItem))] := by
  refine callS a29_ok (by simp [a29]) ?_
  rw [F29] at h
  simp only [a29, VW.down, Nat.reduceEqDiff, reduceCtorEq, Nat.reduceAdd, Nat.reduceLeDiff, Nat.reduceLT, Nat.reduceBEq, Nat.reduceSub, EE.down]
  obtain ⟨t1, ht1, h⟩ := Option.bind_eq_some_iff.1 h
  refine callX_n [] (F51_ok ht1) ?_ ?_ ?_ ?_ ?_ ?_
  · first | rfl | simp [nrmA, nrmC, nrm, A1.ren, C.ren, rn, List.length_set]
  · simp [liveAll, A1.live, C.live]
  · rfl
  · decide
  · exact trivial
  simp only [VW.down, Nat.reduceEqDiff, reduceCtorEq, Nat.reduceAdd, Nat.reduceLeDiff, Nat.reduceLT, Nat.reduceBEq, Nat.reduceSub, EE.down]
  obtain ⟨o2, ho, h⟩ := Option.bind_eq_some_iff.1 h
  refine cutS (fun s => s = ⟨[(4, .one (.c (.pt 0 0))), (5, .one (.c (.pt 1 0)))], [some (.box [.d (.v (.slice none 0 0)), .d (.v (.slice none 0 0)), .d (.v (.slice none 0 0)), .d (.v (.slice none 0 0)), .d (.v (.slice none 0 0))]), some (.box [.own 2 0 0 (o2.1.length) none, .own 3 0 0 (o2.2.1.length) none, .own 4 0 0 (o2.2.2.1.length) none, .own 5 0 0 (o2.2.2.2.1.length) none, .own 6 0 0 (o2.2.2.2.2.length) none]), some (.arr 0 1 (o2.1.map eS)), some (.arr 0 1 (o2.2.1.map eS)), some (.arr 0 1 (o2.2.2.1.map eS)), some (.arr 0 2 (o2.2.2.2.1.map eWorkItem)), some (.arr 0 2 (o2.2.2.2.2.map eWorkItem))]⟩) ?_ ?_
  · have h := ho
    clear ho
    simp only [VW.down, Nat.reduceEqDiff, reduceCtorEq, Nat.reduceAdd, Nat.reduceLeDiff, Nat.reduceLT, Nat.reduceBEq, Nat.reduceSub, EE.down]
    refine bL (fun j s => ∃ (o2_0 : List ByteArray) (o2_1 : List ByteArray) (o2_2 : List ByteArray) (o2_3 : List WorkItem) (o2_4 : List WorkItem), s = ⟨[(1, .one (.c (.d (.v (.int .i64 x1))))), (4, .one (.c (.pt 0 0))), (5, .one (.c (.pt 1 0)))], [some (.box [.d (.v (.slice none 0 0)), .d (.v (.slice none 0 0)), .d (.v (.slice none 0 0)), .d (.v (.slice none 0 0)), .d (.v (.slice none 0 0))]), some (.box [.own 2 0 0 (o2_0.length) none, .own 3 0 0 (o2_1.length) none, .own 4 0 0 (o2_2.length) none, .own 5 0 0 (o2_3.length) none, .own 6 0 0 (o2_4.length) none]), some (.arr 0 1 (o2_0.map eS)), some (.arr 0 1 (o2_1.map eS)), some (.arr 0 1 (o2_2.map eS)), some (.arr 0 2 (o2_3.map eWorkItem)), some (.arr 0 2 (o2_4.map eWorkItem))]⟩ ∧ F29_l2 x1 j o2_0 o2_1 o2_2 o2_3 o2_4 = some o2) 1099511627776 [some 1, some 7, some 2, some 3, some 4, some 5, some 6] ⟨t1.1, t1.2.1, t1.2.2.1, t1.2.2.2.1, t1.2.2.2.2, rfl, h⟩ ?_
    rintro j _ ⟨o2_0, o2_1, o2_2, o2_3, o2_4, rfl, h⟩
    cases j with
    | zero => cases (show (none : Option _) = some _ from h)
    | succ j =>
      rw [F29_l2] at h
      simp only [VW.down, Nat.reduceEqDiff, reduceCtorEq, Nat.reduceAdd, Nat.reduceLeDiff, Nat.reduceLT, Nat.reduceBEq, Nat.reduceSub, EE.down]
      obtain ⟨o3, ho, h⟩ := Option.bind_eq_some_iff.1 h
      refine cutS (fun s => s = ⟨[(1, .one (.c (.d (.v (.int .i64 x1))))), (4, .one (.c (.pt 0 0))), (5, .one (.c (.pt 1 0))), (21, .one (.c (.d (.v (.bool o3)))))], [some (.box [.d (.v (.slice none 0 0)), .d (.v (.slice none 0 0)), .d (.v (.slice none 0 0)), .d (.v (.slice none 0 0)), .d (.v (.slice none 0 0))]), some (.box [.own 2 0 0 (o2_0.length) none, .own 3 0 0 (o2_1.length) none, .own 4 0 0 (o2_2.length) none, .own 5 0 0 (o2_3.length) none, .own 6 0 0 (o2_4.length) none]), some (.arr 0 1 (o2_0.map eS)), some (.arr 0 1 (o2_1.map eS)), some (.arr 0 1 (o2_2.map eS)), some (.arr 0 2 (o2_3.map eWorkItem)), some (.arr 0 2 (o2_4.map eWorkItem))]⟩) ?_ ?_
      · have h := ho
        clear ho
        simp only [VW.down, Nat.reduceEqDiff, reduceCtorEq, Nat.reduceAdd, Nat.reduceLeDiff, Nat.reduceLT, Nat.reduceBEq, Nat.reduceSub, EE.down]
        refine guardS (fun g4 => ?_) (fun g4 => ?_)
        · have h := (if_pos g4).symm.trans h
          simp only [VW.down, Nat.reduceEqDiff, reduceCtorEq, Nat.reduceAdd, Nat.reduceLeDiff, Nat.reduceLT, Nat.reduceBEq, Nat.reduceSub, EE.down]
          obtain ⟨y5, hy5, h⟩ := Option.bind_eq_some_iff.1 h
          refine t_idxO (enc := eWorkItem) (xs := o2_3) rfl rfl rfl (by first | rfl | simp only [List.length_set] | exact (clrL_len (slI_len (by assumption))).symm) hy5 ?_
          simp only [VW.down, Nat.reduceEqDiff, reduceCtorEq, Nat.reduceAdd, Nat.reduceLeDiff, Nat.reduceLT, Nat.reduceBEq, Nat.reduceSub, EE.down]
          refine LdRow.rd (rdI_some hy5).2.1 ?_
          simp only [VW.down, Nat.reduceEqDiff, reduceCtorEq, Nat.reduceAdd, Nat.reduceLeDiff, Nat.reduceLT, Nat.reduceBEq, Nat.reduceSub, EE.down]
          obtain rfl := Option.some.inj h
          exact eM [some 0, some 1, some 2, some 3, some 4, some 5, some 6] rfl
        · have h := (if_neg g4).symm.trans h
          simp only [VW.down, Nat.reduceEqDiff, reduceCtorEq, Nat.reduceAdd, Nat.reduceLeDiff, Nat.reduceLT, Nat.reduceBEq, Nat.reduceSub, EE.down]
          obtain rfl := Option.some.inj h
          exact eM [some 0, some 1, some 2, some 3, some 4, some 5, some 6] rfl
      · rintro _ rfl
        clear ho
        simp only [VW.down, Nat.reduceEqDiff, reduceCtorEq, Nat.reduceAdd, Nat.reduceLeDiff, Nat.reduceLT, Nat.reduceBEq, Nat.reduceSub, EE.down]
        refine condB (fun c6 => ?_) (fun c6 => ?_)
        · have h := (if_pos c6).symm.trans h
          simp only [VW.down, Nat.reduceEqDiff, reduceCtorEq, Nat.reduceAdd, Nat.reduceLeDiff, Nat.reduceLT, Nat.reduceBEq, Nat.reduceSub, EE.down]
          obtain ⟨y7, hy7, h⟩ := Option.bind_eq_some_iff.1 h
          refine t_idxO (enc := eWorkItem) (xs := o2_3) rfl rfl rfl (by first | rfl | simp only [List.length_set] | exact (clrL_len (slI_len (by assumption))).symm) hy7 ?_
          simp only [VW.down, Nat.reduceEqDiff, reduceCtorEq, Nat.reduceAdd, Nat.reduceLeDiff, Nat.reduceLT, Nat.reduceBEq, Nat.reduceSub, EE.down]
          refine LdRow.rd (rdI_some hy7).2.1 ?_
          simp only [VW.down, Nat.reduceEqDiff, reduceCtorEq, Nat.reduceAdd, Nat.reduceLeDiff, Nat.reduceLT, Nat.reduceBEq, Nat.reduceSub, EE.down]
          obtain ⟨s8, hs8, h⟩ := Option.bind_eq_some_iff.1 h
          refine t_sliceO (enc := eWorkItem) (xs := o2_3) rfl rfl (by first | rfl | simp only [List.length_set] | exact (clrL_len (slI_len (by assumption))).symm) rfl (by first | rfl | simp only [intV, List.length_set]) hs8 ?_
          simp only [VW.down, Nat.reduceEqDiff, reduceCtorEq, Nat.reduceAdd, Nat.reduceLeDiff, Nat.reduceLT, Nat.reduceBEq, Nat.reduceSub, EE.down]
          obtain ⟨t9, ht9, h⟩ := Option.bind_eq_some_iff.1 h
          refine callX_borF (F23_ok ht9) (by simp only [borAs, bors, hp, List.getElem?_cons_zero, List.getElem?_cons_succ, Option.join_some, List.drop_zero, bor_full', true_and, Nat.zero_add, List.length_map, Nat.le_refl, nrm, List.length_cons, List.length_nil, Nat.reduceAdd, Nat.reduceLeDiff, List.take_succ_cons, List.take_zero, List.take_nil, List.map_cons, List.map_nil, List.length_set, EE.down, slI_bor1 hs8, slI_le1 hs8]) rfl ⟨flat_rows (enc := eS) (fun _ => rfl) _, flat_rows (enc := eS) (fun _ => rfl) _, flat_rows (enc := eS) (fun _ => rfl) _, flat_rows (enc := eWorkItem) (fun _ => rfl) _, flat_rows (enc := eWorkItem) (fun _ => rfl) _, trivial⟩ ?_
          simp only [VW.down, Nat.reduceEqDiff, reduceCtorEq, Nat.reduceAdd, Nat.reduceLeDiff, Nat.reduceLT, Nat.reduceBEq, Nat.reduceSub, EE.down]
          exact eL' j [some 0, some 1, some 7, some 8, some 9, some 10, some 11] ⟨t9.1, t9.2.1, t9.2.2.1, t9.2.2.2.1, t9.2.2.2.2, rfl, h⟩ (Nat.lt_succ_self _)
        · have h := (if_neg c6).symm.trans h
          simp only [VW.down, Nat.reduceEqDiff, reduceCtorEq, Nat.reduceAdd, Nat.reduceLeDiff, Nat.reduceLT, Nat.reduceBEq, Nat.reduceSub, EE.down]
          obtain rfl := Option.some.inj h
          exact eM [some 0, some 1, some 2, some 3, some 4, some 5, some 6] rfl
  · rintro _ rfl
    clear ho
    simp only [VW.down, Nat.reduceEqDiff, reduceCtorEq, Nat.reduceAdd, Nat.reduceLeDiff, Nat.reduceLT, Nat.reduceBEq, Nat.reduceSub, EE.down]
    obtain rfl := Option.some.inj h
    exact eF [some 2, some 3, some 4, some 5, some 6]

/- orchestrator/orchestratorlaw31.model -/
def F12 (x0 : WorkQueue) (x1 : Op) : Option ((List ByteArray) × (List ByteArray) × (List ByteArray) × (List WorkItem) × (List WorkItem) × ByteArray × Bool) := (if (x1.Kind.tmod 7) = 0 then (F23 x0 x1.Key).bind fun t2 => some ((t2.1, t2.2.1, t2.2.2.1, t2.2.2.2.1, t2.2.2.2.2, (⟨#[]⟩ : ByteArray), false)) else (if (x1.Kind.tmod 7) = 1 then (F24 x0 x1.Key x1.N).bind fun t4 => some ((t4.1, t4.2.1, t4.2.2.1, t4.2.2.2.1, t4.2.2.2.2, (⟨#[]⟩ : ByteArray), false)) else (if (x1.Kind.tmod 7) = 2 then (F25 x0).bind fun t6 => some ((t6.1, t6.2.1, t6.2.2.1, t6.2.2.2.1, t6.2.2.2.2.1, t6.2.2.2.2.2.1, t6.2.2.2.2.2.2)) else (if (x1.Kind.tmod 7) = 3 then (F26 x0 x1.Key).bind fun t8 => some ((t8.1, t8.2.1, t8.2.2.1, t8.2.2.2.1, t8.2.2.2.2, (⟨#[]⟩ : ByteArray), false)) else (if (x1.Kind.tmod 7) = 4 then (F27 x0 x1.Key x1.N x1.Base x1.Limit).bind fun t10 => some ((t10.1, t10.2.1, t10.2.2.1, t10.2.2.2.1, t10.2.2.2.2, (⟨#[]⟩ : ByteArray), false)) else (if (x1.Kind.tmod 7) = 5 then (F28 x0 x1.Key).bind fun t12 => some ((t12.1, t12.2.1, t12.2.2.1, t12.2.2.2.1, t12.2.2.2.2, (⟨#[]⟩ : ByteArray), false)) else (F29 x0 x1.N).bind fun t13 => some ((t13.1, t13.2.1, t13.2.2.1, t13.2.2.2.1, t13.2.2.2.2, (⟨#[]⟩ : ByteArray), false))))))))
def a12 : AFn := ⟨59, [(.cell 4 (some 5)), (.tmp 5), (.tmp 6)],
 (.seq (.reg [⟨(some 2), none, .box (.t 0), [], (.new [])⟩,
   ⟨(some 3), none, .box (.t 1), [], (.new [])⟩,
   ⟨(some 4), none, .zbox [.d (.v (.slice none 0 0)), .d (.v (.slice none 0 0)), .d (.v (.slice none 0 0)), .d (.v (.slice none 0 0)), .d (.v (.slice none 0 0))], [], (.new [])⟩,
   ⟨(some 5), none, .mv (kS ⟨#[]⟩), [], (.new [])⟩,
   ⟨(some 6), none, .mv (kB false), [], (.new [])⟩])
 (.seq (.seq (.reg [⟨(some 7), none, .fieldA 0 (.t 3), [], (.new [])⟩,
   ⟨(some 8), none, .load none (.t 7), [], (.new [])⟩,
   ⟨(some 9), none, .bin .rem (.t 8) (.k (.c (.d (.v (.int .u8 7))))), [], (.new [])⟩])
 (.block 0 (.seq (.reg [⟨(some 11), none, .bin .eql (.t 9) (.k (.c (.d (.v (.int .u8 0))))), [], (.new [])⟩,
   ⟨(some 10), none, .mv (.t 11), [], (.new [])⟩])
 (.cond (.t 10)
 (.seq (.reg [⟨(some 12), none, .load (some 5) (.t 2), [], (.new [])⟩,
   ⟨(some 13), none, .fieldA 1 (.t 3), [], (.new [])⟩,
   ⟨(some 14), none, .load none (.t 13), [], (.new [])⟩,
   ⟨(some 15), none, .call 23 [(.t 12), (.t 14)], [], (.new [])⟩,
   ⟨none, none, .store 5 (.t 4) (.t 15), [], (.new [])⟩,
   ⟨(some 5), none, .mv (kS ⟨#[]⟩), [], (.new [])⟩,
   ⟨(some 6), none, .mv (kB false), [], (.new [])⟩])
 .ret)
 (.seq (.reg [⟨(some 17), none, .bin .eql (.t 9) (.k (.c (.d (.v (.int .u8 1))))), [], (.new [])⟩,
   ⟨(some 16), none, .mv (.t 17), [], (.new [])⟩])
 (.cond (.t 16)
 (.seq (.reg [⟨(some 18), none, .load (some 5) (.t 2), [], (.new [])⟩,
   ⟨(some 19), none, .fieldA 1 (.t 3), [], (.new [])⟩,
   ⟨(some 20), none, .load none (.t 19), [], (.new [])⟩,
   ⟨(some 21), none, .fieldA 2 (.t 3), [], (.new [])⟩,
   ⟨(some 22), none, .load none (.t 21), [], (.new [])⟩,
   ⟨(some 23), none, .call 24 [(.t 18), (.t 20), (.t 22)], [], (.new [])⟩,
   ⟨none, none, .store 5 (.t 4) (.t 23), [], (.new [])⟩,
   ⟨(some 5), none, .mv (kS ⟨#[]⟩), [], (.new [])⟩,
   ⟨(some 6), none, .mv (kB false), [], (.new [])⟩])
 .ret)
 (.seq (.reg [⟨(some 25), none, .bin .eql (.t 9) (.k (.c (.d (.v (.int .u8 2))))), [], (.new [])⟩,
   ⟨(some 24), none, .mv (.t 25), [], (.new [])⟩])
 (.cond (.t 24)
 (.seq (.reg [⟨(some 26), none, .load (some 5) (.t 2), [], (.new [])⟩,
   ⟨(some 27), none, .call 25 [(.t 26)], [], (.new [])⟩,
   ⟨(some 28), none, .ext (.t 27) 0, [], (.new [])⟩,
   ⟨(some 29), none, .ext (.t 27) 1, [], (.new [])⟩,
   ⟨(some 30), none, .ext (.t 27) 2, [], (.new [])⟩,
   ⟨none, none, .store 5 (.t 4) (.t 28), [], (.new [])⟩,
   ⟨(some 5), none, .mv (.t 29), [], (.new [])⟩,
   ⟨(some 6), none, .mv (.t 30), [], (.new [])⟩])
 .ret)
 (.seq (.reg [⟨(some 32), none, .bin .eql (.t 9) (.k (.c (.d (.v (.int .u8 3))))), [], (.new [])⟩,
   ⟨(some 31), none, .mv (.t 32), [], (.new [])⟩])
 (.cond (.t 31)
 (.seq (.reg [⟨(some 33), none, .load (some 5) (.t 2), [], (.new [])⟩,
   ⟨(some 34), none, .fieldA 1 (.t 3), [], (.new [])⟩,
   ⟨(some 35), none, .load none (.t 34), [], (.new [])⟩,
   ⟨(some 36), none, .call 26 [(.t 33), (.t 35)], [], (.new [])⟩,
   ⟨none, none, .store 5 (.t 4) (.t 36), [], (.new [])⟩,
   ⟨(some 5), none, .mv (kS ⟨#[]⟩), [], (.new [])⟩,
   ⟨(some 6), none, .mv (kB false), [], (.new [])⟩])
 .ret)
 (.seq (.reg [⟨(some 38), none, .bin .eql (.t 9) (.k (.c (.d (.v (.int .u8 4))))), [], (.new [])⟩,
   ⟨(some 37), none, .mv (.t 38), [], (.new [])⟩])
 (.cond (.t 37)
 (.seq (.reg [⟨(some 39), none, .load (some 5) (.t 2), [], (.new [])⟩,
   ⟨(some 40), none, .fieldA 1 (.t 3), [], (.new [])⟩,
   ⟨(some 41), none, .load none (.t 40), [], (.new [])⟩,
   ⟨(some 42), none, .fieldA 2 (.t 3), [], (.new [])⟩,
   ⟨(some 43), none, .load none (.t 42), [], (.new [])⟩,
   ⟨(some 44), none, .fieldA 3 (.t 3), [], (.new [])⟩,
   ⟨(some 45), none, .load none (.t 44), [], (.new [])⟩,
   ⟨(some 46), none, .fieldA 4 (.t 3), [], (.new [])⟩,
   ⟨(some 47), none, .load none (.t 46), [], (.new [])⟩,
   ⟨(some 48), none, .call 27 [(.t 39), (.t 41), (.t 43), (.t 45), (.t 47)], [], (.new [])⟩,
   ⟨none, none, .store 5 (.t 4) (.t 48), [], (.new [])⟩,
   ⟨(some 5), none, .mv (kS ⟨#[]⟩), [], (.new [])⟩,
   ⟨(some 6), none, .mv (kB false), [], (.new [])⟩])
 .ret)
 (.seq (.reg [⟨(some 50), none, .bin .eql (.t 9) (.k (.c (.d (.v (.int .u8 5))))), [], (.new [])⟩,
   ⟨(some 49), none, .mv (.t 50), [], (.new [])⟩])
 (.cond (.t 49)
 (.seq (.reg [⟨(some 51), none, .load (some 5) (.t 2), [], (.new [])⟩,
   ⟨(some 52), none, .fieldA 1 (.t 3), [], (.new [])⟩,
   ⟨(some 53), none, .load none (.t 52), [], (.new [])⟩,
   ⟨(some 54), none, .call 28 [(.t 51), (.t 53)], [], (.new [])⟩,
   ⟨none, none, .store 5 (.t 4) (.t 54), [], (.new [])⟩,
   ⟨(some 5), none, .mv (kS ⟨#[]⟩), [], (.new [])⟩,
   ⟨(some 6), none, .mv (kB false), [], (.new [])⟩])
 .ret)
 .skip))))))))))))))
 (.seq (.reg [⟨(some 55), none, .load (some 5) (.t 2), [], (.new [])⟩,
   ⟨(some 56), none, .fieldA 2 (.t 3), [], (.new [])⟩,
   ⟨(some 57), none, .load none (.t 56), [], (.new [])⟩,
   ⟨(some 58), none, .call 29 [(.t 55), (.t 57)], [], (.new [])⟩,
   ⟨none, none, .store 5 (.t 4) (.t 58), [], (.new [])⟩,
   ⟨(some 5), none, .mv (kS ⟨#[]⟩), [], (.new [])⟩,
   ⟨(some 6), none, .mv (kB false), [], (.new [])⟩])
 .ret)))⟩
theorem a12_ok : afn Try.prog 12 = some a12.er := by kernel_rfl
theorem F12_ok {x0 : WorkQueue} {x1 : Op} {r : (List ByteArray) × (List ByteArray) × (List ByteArray) × (List WorkItem) × (List WorkItem) × ByteArray × Bool} (h : F12 x0 x1 = some r) : CallD Try.prog 12 [.agg [.d (.sl (x0.Ready.map eS)), .d (.sl (x0.Working.map eS)), .d (.sl (x0.Dirty.map eS)), .d (.sl (x0.Later.map eWorkItem)), .d (.sl (x0.Retries.map eWorkItem))], .agg [.d (.v (.int .u8 x1.Kind)), .d (.v (.string x1.Key)), .d (.v (.int .i64 x1.N)), .d (.v (.int .i64 x1.Base)), .d (.v (.int .i64 x1.Limit))]] [] (tupV [.agg [.d (.sl (r.1.map eS)), .own 0 0 0 (r.2.1.length) none, .own 1 0 0 (r.2.2.1.length) none, .own 2 0 0 (r.2.2.2.1.length) none, .own 3 0 0 (r.2.2.2.2.1.length) none], .c (.d (.v (.string r.2.2.2.2.2.1))), .c (.d (.v (.bool r.2.2.2.2.2.2)))]) [some (.arr 0 1 (r.2.1.map eS)), some (.arr 0 1 (r.2.2.1.map eS)), some (.arr 0 2 (r.2.2.2.1.map eWorkItem)), some (.arr 0 2 (r.2.2.2.2.1.map eWorkItem))] := by
  refine callS a12_ok (by simp [a12]) ?_
  rw [F12] at h
  simp only [a12, VW.down, Nat.reduceEqDiff, reduceCtorEq, Nat.reduceAdd, Nat.reduceLeDiff, Nat.reduceLT, Nat.reduceBEq, Nat.reduceSub, EE.down]
  refine ⟨by omega, ?_⟩
  try simp only [VW.down, Nat.reduceEqDiff, reduceCtorEq, Nat.reduceAdd, Nat.reduceLeDiff, Nat.reduceLT, Nat.reduceBEq, Nat.reduceSub, EE.down]
  refine condS (fun c1 => ?_) (fun c1 => ?_)
  · have h := (if_pos c1).symm.trans h
    simp only [VW.down, Nat.reduceEqDiff, reduceCtorEq, Nat.reduceAdd, Nat.reduceLeDiff, Nat.reduceLT, Nat.reduceBEq, Nat.reduceSub, EE.down]
    obtain ⟨t2, ht2, h⟩ := Option.bind_eq_some_iff.1 h
    refine callX_n [] (F23_ok ht2) ?_ ?_ ?_ ?_ ?_ ?_
    · first | rfl | simp [nrmA, nrmC, nrm, A1.ren, C.ren, rn, List.length_set]
    · simp [liveAll, A1.live, C.live]
    · rfl
    · decide
    · exact trivial
    simp only [VW.down, Nat.reduceEqDiff, reduceCtorEq, Nat.reduceAdd, Nat.reduceLeDiff, Nat.reduceLT, Nat.reduceBEq, Nat.reduceSub, EE.down]
    obtain rfl := Option.some.inj h
    exact eF [some 4, some 5, some 6, some 7]
  · have h := (if_neg c1).symm.trans h
    simp only [VW.down, Nat.reduceEqDiff, reduceCtorEq, Nat.reduceAdd, Nat.reduceLeDiff, Nat.reduceLT, Nat.reduceBEq, Nat.reduceSub, EE.down]
    refine condS (fun c3 => ?_) (fun c3 => ?_)
    · have h := (if_pos c3).symm.trans h
      simp only [VW.down, Nat.reduceEqDiff, reduceCtorEq, Nat.reduceAdd, Nat.reduceLeDiff, Nat.reduceLT, Nat.reduceBEq, Nat.reduceSub, EE.down]
      obtain ⟨t4, ht4, h⟩ := Option.bind_eq_some_iff.1 h
      refine callX_n [] (F24_ok ht4) ?_ ?_ ?_ ?_ ?_ ?_
      · first | rfl | simp [nrmA, nrmC, nrm, A1.ren, C.ren, rn, List.length_set]
      · simp [liveAll, A1.live, C.live]
      · rfl
      · decide
      · exact trivial
      simp only [VW.down, Nat.reduceEqDiff, reduceCtorEq, Nat.reduceAdd, Nat.reduceLeDiff, Nat.reduceLT, Nat.reduceBEq, Nat.reduceSub, EE.down]
      obtain rfl := Option.some.inj h
      exact eF [some 4, some 5, some 6, some 7]
    · have h := (if_neg c3).symm.trans h
      simp only [VW.down, Nat.reduceEqDiff, reduceCtorEq, Nat.reduceAdd, Nat.reduceLeDiff, Nat.reduceLT, Nat.reduceBEq, Nat.reduceSub, EE.down]
      refine condS (fun c5 => ?_) (fun c5 => ?_)
      · have h := (if_pos c5).symm.trans h
        simp only [VW.down, Nat.reduceEqDiff, reduceCtorEq, Nat.reduceAdd, Nat.reduceLeDiff, Nat.reduceLT, Nat.reduceBEq, Nat.reduceSub, EE.down]
        obtain ⟨t6, ht6, h⟩ := Option.bind_eq_some_iff.1 h
        refine callX_n [] (F25_ok ht6) ?_ ?_ ?_ ?_ ?_ ?_
        · first | rfl | simp [nrmA, nrmC, nrm, A1.ren, C.ren, rn, List.length_set]
        · simp [liveAll, A1.live, C.live]
        · rfl
        · decide
        · exact trivial
        simp only [VW.down, Nat.reduceEqDiff, reduceCtorEq, Nat.reduceAdd, Nat.reduceLeDiff, Nat.reduceLT, Nat.reduceBEq, Nat.reduceSub, EE.down]
        obtain rfl := Option.some.inj h
        exact eF [some 3, some 4, some 5, some 6]
      · have h := (if_neg c5).symm.trans h
        simp only [VW.down, Nat.reduceEqDiff, reduceCtorEq, Nat.reduceAdd, Nat.reduceLeDiff, Nat.reduceLT, Nat.reduceBEq, Nat.reduceSub, EE.down]
        refine condS (fun c7 => ?_) (fun c7 => ?_)
        · have h := (if_pos c7).symm.trans h
          simp only [VW.down, Nat.reduceEqDiff, reduceCtorEq, Nat.reduceAdd, Nat.reduceLeDiff, Nat.reduceLT, Nat.reduceBEq, Nat.reduceSub, EE.down]
          obtain ⟨t8, ht8, h⟩ := Option.bind_eq_some_iff.1 h
          refine callX_n [] (F26_ok ht8) ?_ ?_ ?_ ?_ ?_ ?_
          · first | rfl | simp [nrmA, nrmC, nrm, A1.ren, C.ren, rn, List.length_set]
          · simp [liveAll, A1.live, C.live]
          · rfl
          · decide
          · exact trivial
          simp only [VW.down, Nat.reduceEqDiff, reduceCtorEq, Nat.reduceAdd, Nat.reduceLeDiff, Nat.reduceLT, Nat.reduceBEq, Nat.reduceSub, EE.down]
          obtain rfl := Option.some.inj h
          exact eF [some 4, some 5, some 6, some 7]
        · have h := (if_neg c7).symm.trans h
          simp only [VW.down, Nat.reduceEqDiff, reduceCtorEq, Nat.reduceAdd, Nat.reduceLeDiff, Nat.reduceLT, Nat.reduceBEq, Nat.reduceSub, EE.down]
          refine condS (fun c9 => ?_) (fun c9 => ?_)
          · have h := (if_pos c9).symm.trans h
            simp only [VW.down, Nat.reduceEqDiff, reduceCtorEq, Nat.reduceAdd, Nat.reduceLeDiff, Nat.reduceLT, Nat.reduceBEq, Nat.reduceSub, EE.down]
            obtain ⟨t10, ht10, h⟩ := Option.bind_eq_some_iff.1 h
            refine callX_n [] (F27_ok ht10) ?_ ?_ ?_ ?_ ?_ ?_
            · first | rfl | simp [nrmA, nrmC, nrm, A1.ren, C.ren, rn, List.length_set]
            · simp [liveAll, A1.live, C.live]
            · rfl
            · decide
            · exact trivial
            simp only [VW.down, Nat.reduceEqDiff, reduceCtorEq, Nat.reduceAdd, Nat.reduceLeDiff, Nat.reduceLT, Nat.reduceBEq, Nat.reduceSub, EE.down]
            obtain rfl := Option.some.inj h
            exact eF [some 4, some 5, some 6, some 7]
          · have h := (if_neg c9).symm.trans h
            simp only [VW.down, Nat.reduceEqDiff, reduceCtorEq, Nat.reduceAdd, Nat.reduceLeDiff, Nat.reduceLT, Nat.reduceBEq, Nat.reduceSub, EE.down]
            refine condS (fun c11 => ?_) (fun c11 => ?_)
            · have h := (if_pos c11).symm.trans h
              simp only [VW.down, Nat.reduceEqDiff, reduceCtorEq, Nat.reduceAdd, Nat.reduceLeDiff, Nat.reduceLT, Nat.reduceBEq, Nat.reduceSub, EE.down]
              obtain ⟨t12, ht12, h⟩ := Option.bind_eq_some_iff.1 h
              refine callX_n [] (F28_ok ht12) ?_ ?_ ?_ ?_ ?_ ?_
              · first | rfl | simp [nrmA, nrmC, nrm, A1.ren, C.ren, rn, List.length_set]
              · simp [liveAll, A1.live, C.live]
              · rfl
              · decide
              · exact trivial
              simp only [VW.down, Nat.reduceEqDiff, reduceCtorEq, Nat.reduceAdd, Nat.reduceLeDiff, Nat.reduceLT, Nat.reduceBEq, Nat.reduceSub, EE.down]
              obtain rfl := Option.some.inj h
              exact eF [some 4, some 5, some 6, some 7]
            · have h := (if_neg c11).symm.trans h
              simp only [VW.down, Nat.reduceEqDiff, reduceCtorEq, Nat.reduceAdd, Nat.reduceLeDiff, Nat.reduceLT, Nat.reduceBEq, Nat.reduceSub, EE.down]
              obtain ⟨t13, ht13, h⟩ := Option.bind_eq_some_iff.1 h
              refine callX_n [] (F29_ok ht13) ?_ ?_ ?_ ?_ ?_ ?_
              · first | rfl | simp [nrmA, nrmC, nrm, A1.ren, C.ren, rn, List.length_set]
              · simp [liveAll, A1.live, C.live]
              · rfl
              · decide
              · exact trivial
              simp only [VW.down, Nat.reduceEqDiff, reduceCtorEq, Nat.reduceAdd, Nat.reduceLeDiff, Nat.reduceLT, Nat.reduceBEq, Nat.reduceSub, EE.down]
              obtain rfl := Option.some.inj h
              exact eF [some 4, some 5, some 6, some 7]
end Go.Proofs.Ytpgonamdmlgifaa
