/- Each Go function as a function over typed data, and its walk. -/
import Derived.Test.YtdpbdbclninjaaaX
namespace Go.Proofs.Ytdpbdbclninjaaa
open Go Go.Fw
set_option maxRecDepth 100000
set_option maxHeartbeats 4000000
set_option linter.unusedSimpArgs false
set_option linter.unusedVariables false
/- orchestrator/orchestratorref42.out -/
def F45 (x0 : SchedQueue) (x1 : ByteArray) : Option ((List WorkItem) × (List WorkItem) × (List WorkItem) × (List WorkItem)) := (F50 x0.Active x1).bind fun t1 => (F50 x0.Stuck x1).bind fun t2 => (F50 x0.Backoff x1).bind fun t3 => (F50 x0.Waiting x1).bind fun t4 => some ((t4, t1, t2, t3))
def a45 : AFn := ⟨26, [(.cell 4 (some 6))],
 (.seq (.reg [⟨(some 2), none, .box (.t 0), [], none⟩,
   ⟨(some 4), none, .zbox [.d (.v (.slice none 0 0)), .d (.v (.slice none 0 0)), .d (.v (.slice none 0 0)), .d (.v (.slice none 0 0)), .d (.v (.slice none 0 0)), .d (.v (.int .i64 0))], [], none⟩])
 (.seq (.reg [⟨(some 5), none, .fieldA 1 (.t 2), [], none⟩,
   ⟨(some 6), none, .load none (.t 5), [], none⟩,
   ⟨(some 7), none, .mv (.t 1), [], none⟩,
   ⟨(some 8), none, .call 50 [(.t 6), (.t 7)], [], none⟩,
   ⟨(some 9), none, .fieldA 1 (.t 2), [], none⟩,
   ⟨none, none, .store 1 (.t 9) (.t 8), [], none⟩])
 (.seq (.reg [⟨(some 10), none, .fieldA 2 (.t 2), [], none⟩,
   ⟨(some 11), none, .load none (.t 10), [], none⟩,
   ⟨(some 12), none, .mv (.t 1), [], none⟩,
   ⟨(some 13), none, .call 50 [(.t 11), (.t 12)], [], none⟩,
   ⟨(some 14), none, .fieldA 2 (.t 2), [], none⟩,
   ⟨none, none, .store 1 (.t 14) (.t 13), [], none⟩])
 (.seq (.reg [⟨(some 15), none, .fieldA 3 (.t 2), [], none⟩,
   ⟨(some 16), none, .load none (.t 15), [], none⟩,
   ⟨(some 17), none, .mv (.t 1), [], none⟩,
   ⟨(some 18), none, .call 50 [(.t 16), (.t 17)], [], none⟩,
   ⟨(some 19), none, .fieldA 3 (.t 2), [], none⟩,
   ⟨none, none, .store 1 (.t 19) (.t 18), [], none⟩])
 (.seq (.reg [⟨(some 20), none, .fieldA 0 (.t 2), [], none⟩,
   ⟨(some 21), none, .load none (.t 20), [], none⟩,
   ⟨(some 22), none, .mv (.t 1), [], none⟩,
   ⟨(some 23), none, .call 50 [(.t 21), (.t 22)], [], none⟩,
   ⟨(some 24), none, .fieldA 0 (.t 2), [], none⟩,
   ⟨none, none, .store 1 (.t 24) (.t 23), [], none⟩])
 (.seq (.reg [⟨(some 25), none, .load (some 6) (.t 2), [], none⟩,
   ⟨none, none, .store 6 (.t 4) (.t 25), [], (some [2])⟩])
 .ret))))))⟩
theorem a45_ok : afn Try.prog 45 = some a45.er := by kernel_rfl
theorem F45_ok {x0 : SchedQueue} {x1 : ByteArray} {r : (List WorkItem) × (List WorkItem) × (List WorkItem) × (List WorkItem)} (h : F45 x0 x1 = some r) : CallD Try.prog 45 [.agg [.d (.sl (x0.Waiting.map eWorkItem)), .d (.sl (x0.Active.map eWorkItem)), .d (.sl (x0.Stuck.map eWorkItem)), .d (.sl (x0.Backoff.map eWorkItem)), .d (.sl (x0.Retries.map eWorkItem)), .d (.v (.int .i64 x0.Cycle))], .c (.d (.v (.string x1)))] [] (tupV [.agg [.own 0 0 0 (r.1.length) none, .own 1 0 0 (r.2.1.length) none, .own 2 0 0 (r.2.2.1.length) none, .own 3 0 0 (r.2.2.2.length) none, .d (.sl (x0.Retries.map eWorkItem)), .d (.v (.int .i64 x0.Cycle))]]) [some (.arr 0 2 (r.1.map eWorkItem)), some (.arr 0 2 (r.2.1.map eWorkItem)), some (.arr 0 2 (r.2.2.1.map eWorkItem)), some (.arr 0 2 (r.2.2.2.map eWorkItem))] := by
  refine callS a45_ok (by simp [a45]) ?_
  rw [F45] at h
  simp only [a45, VW.down, Nat.reduceEqDiff, reduceCtorEq, Nat.reduceAdd, Nat.reduceLeDiff, Nat.reduceLT, Nat.reduceBEq, Nat.reduceSub, EE.down]
  obtain ⟨t1, ht1, h⟩ := Option.bind_eq_some_iff.1 h
  refine callX_n [] (F50_ok ht1) ?_ ?_ ?_ ?_ ?_ ?_
  · first | rfl | simp [nrmA, nrmC, nrm, A1.ren, C.ren, rn, List.length_set]
  · simp [liveAll, A1.live, C.live]
  · rfl
  · decide
  · exact trivial
  simp only [VW.down, Nat.reduceEqDiff, reduceCtorEq, Nat.reduceAdd, Nat.reduceLeDiff, Nat.reduceLT, Nat.reduceBEq, Nat.reduceSub, EE.down]
  obtain ⟨t2, ht2, h⟩ := Option.bind_eq_some_iff.1 h
  refine callX_n [] (F50_ok ht2) ?_ ?_ ?_ ?_ ?_ ?_
  · first | rfl | simp [nrmA, nrmC, nrm, A1.ren, C.ren, rn, List.length_set]
  · simp [liveAll, A1.live, C.live]
  · rfl
  · decide
  · exact trivial
  simp only [VW.down, Nat.reduceEqDiff, reduceCtorEq, Nat.reduceAdd, Nat.reduceLeDiff, Nat.reduceLT, Nat.reduceBEq, Nat.reduceSub, EE.down]
  obtain ⟨t3, ht3, h⟩ := Option.bind_eq_some_iff.1 h
  refine callX_n [] (F50_ok ht3) ?_ ?_ ?_ ?_ ?_ ?_
  · first | rfl | simp [nrmA, nrmC, nrm, A1.ren, C.ren, rn, List.length_set]
  · simp [liveAll, A1.live, C.live]
  · rfl
  · decide
  · exact trivial
  simp only [VW.down, Nat.reduceEqDiff, reduceCtorEq, Nat.reduceAdd, Nat.reduceLeDiff, Nat.reduceLT, Nat.reduceBEq, Nat.reduceSub, EE.down]
  obtain ⟨t4, ht4, h⟩ := Option.bind_eq_some_iff.1 h
  refine callX_n [] (F50_ok ht4) ?_ ?_ ?_ ?_ ?_ ?_
  · first | rfl | simp [nrmA, nrmC, nrm, A1.ren, C.ren, rn, List.length_set]
  · simp [liveAll, A1.live, C.live]
  · rfl
  · decide
  · exact trivial
  simp only [VW.down, Nat.reduceEqDiff, reduceCtorEq, Nat.reduceAdd, Nat.reduceLeDiff, Nat.reduceLT, Nat.reduceBEq, Nat.reduceSub, EE.down]
  obtain rfl := Option.some.inj h
  exact eF [some 5, some 2, some 3, some 4]

/- orchestrator/orchestratorref42.inserted -/
def F46 (x0 : (List WorkItem)) (x1 : Int) (x2 : WorkItem) : Option ((List WorkItem)) := (slI x0 0 x1).bind fun s1 => (apI ([] : List WorkItem) s1).bind fun a2 => (apI a2 ([x2])).bind fun a3 => (slI x0 x1 ((x0.length : Int))).bind fun s4 => (apI a3 s4).bind fun a5 => some a5
def a46 : AFn := ⟨23, [(.tmp 6)],
 (.seq (.reg [⟨(some 5), none, .box (.t 2), [], none⟩,
   ⟨(some 6), none, .mv kN, [], none⟩])
 (.seq (.reg [⟨(some 8), none, .bslice 2 [], [], none⟩,
   ⟨(some 9), none, .mv (.t 0), [], none⟩,
   ⟨(some 10), none, .mv (.t 1), [], none⟩,
   ⟨(some 11), none, .slice 2 (.t 9) none (some (.t 10)) none, [], none⟩,
   ⟨(some 12), none, .app 2 24 (.t 8) (.t 11), [], none⟩,
   ⟨(some 7), none, .mv (.t 12), [], none⟩])
 (.seq (.reg [⟨(some 13), none, .mv (.t 7), [], none⟩,
   ⟨(some 14), none, .load (some 2) (.t 5), [], none⟩,
   ⟨(some 15), none, .bslice 2 [(.t 14)], [], none⟩,
   ⟨(some 16), none, .app 2 24 (.t 13) (.t 15), [], none⟩,
   ⟨(some 7), none, .mv (.t 16), [], none⟩])
 (.seq (.reg [⟨(some 17), none, .mv (.t 7), [], none⟩,
   ⟨(some 18), none, .mv (.t 0), [], none⟩,
   ⟨(some 19), none, .mv (.t 1), [], none⟩,
   ⟨(some 20), none, .slice 2 (.t 18) (some (.t 19)) none none, [], none⟩,
   ⟨(some 21), none, .app 2 24 (.t 17) (.t 20), [], none⟩,
   ⟨(some 7), none, .mv (.t 21), [], none⟩])
 (.seq (.reg [⟨(some 22), none, .mv (.t 7), [], none⟩,
   ⟨(some 6), none, .mv (.t 22), [], none⟩])
 .ret)))))⟩
theorem a46_ok : afn Try.prog 46 = some a46.er := by kernel_rfl
theorem F46_ok {x0 : (List WorkItem)} {x1 : Int} {x2 : WorkItem} {r : (List WorkItem)} (h : F46 x0 x1 x2 = some r) : CallD Try.prog 46 [.c (.d (.sl (x0.map eWorkItem))), .c (.d (.v (.int .i64 x1))), .agg [.d (.v (.string x2.Key)), .d (.v (.int .i64 x2.At))]] [] (tupV [.c (.own 0 0 0 (r.length) none)]) [some (.arr 0 2 (r.map eWorkItem))] := by
  refine callS a46_ok (by simp [a46]) ?_
  rw [F46] at h
  simp only [a46, VW.down, Nat.reduceEqDiff, reduceCtorEq, Nat.reduceAdd, Nat.reduceLeDiff, Nat.reduceLT, Nat.reduceBEq, Nat.reduceSub, EE.down]
  refine t_bslice (enc := eWorkItem) (ys := ([] : List WorkItem)) rfl rfl (by simp [A1.cells]) rfl ?_
  simp only [VW.down, Nat.reduceEqDiff, reduceCtorEq, Nat.reduceAdd, Nat.reduceLeDiff, Nat.reduceLT, Nat.reduceBEq, Nat.reduceSub, EE.down]
  obtain ⟨s1, hs1, h⟩ := Option.bind_eq_some_iff.1 h
  refine t_slice (enc := eWorkItem) (xs := x0) rfl rfl rfl (fun _ => rfl) hs1 ?_
  simp only [VW.down, Nat.reduceEqDiff, reduceCtorEq, Nat.reduceAdd, Nat.reduceLeDiff, Nat.reduceLT, Nat.reduceBEq, Nat.reduceSub, EE.down]
  obtain ⟨a2, ha2, h⟩ := Option.bind_eq_some_iff.1 h
  refine t_app (enc := eWorkItem) (xs := ([] : List WorkItem)) rfl rfl (by first | rfl | simp only [List.length_set] | exact (clrL_len (slI_len (by assumption))).symm) rfl (rows_frz (enc := eWorkItem) fun _ => rfl) ha2 ?_
  simp only [VW.down, Nat.reduceEqDiff, reduceCtorEq, Nat.reduceAdd, Nat.reduceLeDiff, Nat.reduceLT, Nat.reduceBEq, Nat.reduceSub, EE.down]
  refine t_bslice (enc := eWorkItem) (ys := [x2]) rfl rfl (by simp [A1.cells]) rfl ?_
  simp only [VW.down, Nat.reduceEqDiff, reduceCtorEq, Nat.reduceAdd, Nat.reduceLeDiff, Nat.reduceLT, Nat.reduceBEq, Nat.reduceSub, EE.down]
  obtain ⟨a3, ha3, h⟩ := Option.bind_eq_some_iff.1 h
  refine t_app (enc := eWorkItem) (xs := a2) rfl rfl (by first | rfl | simp only [List.length_set] | exact (clrL_len (slI_len (by assumption))).symm) rfl (rows_full (enc := eWorkItem) (by first | rfl | simp only [List.length_set] | exact (clrL_len (slI_len (by assumption))).symm) rfl) ha3 ?_
  simp only [VW.down, Nat.reduceEqDiff, reduceCtorEq, Nat.reduceAdd, Nat.reduceLeDiff, Nat.reduceLT, Nat.reduceBEq, Nat.reduceSub, EE.down]
  obtain ⟨s4, hs4, h⟩ := Option.bind_eq_some_iff.1 h
  refine t_slice (enc := eWorkItem) (xs := x0) rfl rfl rfl (fun _ => rfl) hs4 ?_
  simp only [VW.down, Nat.reduceEqDiff, reduceCtorEq, Nat.reduceAdd, Nat.reduceLeDiff, Nat.reduceLT, Nat.reduceBEq, Nat.reduceSub, EE.down]
  obtain ⟨a5, ha5, h⟩ := Option.bind_eq_some_iff.1 h
  refine t_app (enc := eWorkItem) (xs := a3) rfl rfl (by first | rfl | simp only [List.length_set] | exact (clrL_len (slI_len (by assumption))).symm) rfl (rows_frz (enc := eWorkItem) fun _ => rfl) ha5 ?_
  simp only [VW.down, Nat.reduceEqDiff, reduceCtorEq, Nat.reduceAdd, Nat.reduceLeDiff, Nat.reduceLT, Nat.reduceBEq, Nat.reduceSub, EE.down]
  obtain rfl := Option.some.inj h
  exact eF [some 1]

/- orchestrator/orchestratorref42.Add -/
def F25_l7 (t6 : (List WorkItem) × (List WorkItem) × (List WorkItem) × (List WorkItem)) (x2 : Int) : Nat → Int → Option (Int)
  | 0, _ => none
  | k + 1, o7_0 => (((if o7_0 < (t6.2.1.length : Int) then (rdI t6.2.1 o7_0).bind fun y10 => some (decide (x2 ≤ y10.At)) else some false)).bind fun o8 => (if o8 = true then F25_l7 t6 x2 k ((IntKind.i64.wrap (o7_0 + 1))) else some o7_0))
def F25 (x0 : SchedQueue) (x1 : ByteArray) (x2 : Int) : Option (((List WorkItem)) × (List WorkItem) × ((List WorkItem)) × ((List WorkItem))) := (F44 x0.Active x1).bind fun t1 => (((if 0 ≤ t1 then (rdI x0.Active t1).bind fun y4 => some (decide (y4.At = x2)) else some false)).bind fun o2 => (if o2 = true then some ((x0.Waiting, x0.Active, x0.Stuck, x0.Backoff)) else (F45 x0 x1).bind fun t6 => ((F25_l7 t6 x2 1099511627776 0).bind fun o7 => (F46 t6.2.1 o7 ((⟨x1, x2⟩ : WorkItem))).bind fun t12 => some ((t6.1, t12, t6.2.2.1, t6.2.2.2)))))
def a25 : AFn := ⟨55, [(.cell 6 (some 6))],
 (.seq (.reg [⟨(some 3), none, .box (.t 0), [], none⟩,
   ⟨(some 6), none, .zbox [.d (.v (.slice none 0 0)), .d (.v (.slice none 0 0)), .d (.v (.slice none 0 0)), .d (.v (.slice none 0 0)), .d (.v (.slice none 0 0)), .d (.v (.int .i64 0))], [], none⟩])
 (.seq (.reg [⟨(some 9), none, .fieldA 1 (.t 3), [], none⟩,
   ⟨(some 10), none, .load none (.t 9), [], none⟩,
   ⟨(some 11), none, .mv (.t 1), [], none⟩,
   ⟨(some 12), none, .call 44 [(.t 10), (.t 11)], [], none⟩,
   ⟨(some 7), none, .mv (.t 12), [], none⟩])
 (.seq (.seq (.sem (.reg [⟨(some 13), none, .mv (.t 7), [], none⟩,
   ⟨(some 14), none, .bin .geq (.t 13) (kI 0), [], none⟩,
   ⟨(some 15), none, .mv (.t 14), [], none⟩,
   ⟨(some 16), (some (15, true)), .fieldA 1 (.t 3), [], none⟩,
   ⟨(some 17), (some (15, true)), .load none (.t 16), [], none⟩,
   ⟨(some 18), (some (15, true)), .mv (.t 7), [], none⟩,
   ⟨(some 19), (some (15, true)), .indexA 2 (.t 17) (.t 18), [], none⟩,
   ⟨(some 20), (some (15, true)), .fieldA 1 (.t 19), [], none⟩,
   ⟨(some 21), (some (15, true)), .load none (.t 20), [], none⟩,
   ⟨(some 22), (some (15, true)), .mv (.t 2), [], none⟩,
   ⟨(some 23), (some (15, true)), .bin .eql (.t 21) (.t 22), [], none⟩,
   ⟨(some 24), none, .pick (.t 15) (.t 23) (kB false), [], (some [3, 16, 17, 19, 20])⟩]))
 (.cond (.t 24)
 (.seq (.reg [⟨(some 25), none, .load (some 6) (.t 3), [], none⟩,
   ⟨none, none, .store 6 (.t 6) (.t 25), [], (some [3])⟩])
 .ret)
 .skip))
 (.seq (.reg [⟨(some 26), none, .load (some 6) (.t 3), [], none⟩,
   ⟨(some 27), none, .mv (.t 1), [], none⟩,
   ⟨(some 28), none, .call 45 [(.t 26), (.t 27)], [], none⟩,
   ⟨none, none, .store 6 (.t 3) (.t 28), [], none⟩])
 (.seq (.reg [⟨(some 8), none, .mv (kI 0), [], none⟩])
 (.seq (.sem (.block 0 (.loop (.seq (.seq (.sem (.reg [⟨(some 29), none, .mv (.t 8), [], none⟩,
   ⟨(some 30), none, .fieldA 1 (.t 3), [], none⟩,
   ⟨(some 31), none, .load none (.t 30), [], none⟩,
   ⟨(some 32), none, .len (.t 31), [], none⟩,
   ⟨(some 33), none, .bin .lss (.t 29) (.t 32), [], none⟩,
   ⟨(some 34), none, .mv (.t 33), [], none⟩,
   ⟨(some 35), (some (34, true)), .fieldA 1 (.t 3), [], none⟩,
   ⟨(some 36), (some (34, true)), .load none (.t 35), [], none⟩,
   ⟨(some 37), (some (34, true)), .mv (.t 8), [], none⟩,
   ⟨(some 38), (some (34, true)), .indexA 2 (.t 36) (.t 37), [], none⟩,
   ⟨(some 39), (some (34, true)), .fieldA 1 (.t 38), [], none⟩,
   ⟨(some 40), (some (34, true)), .load none (.t 39), [], none⟩,
   ⟨(some 41), (some (34, true)), .mv (.t 2), [], none⟩,
   ⟨(some 42), (some (34, true)), .bin .geq (.t 40) (.t 41), [], none⟩,
   ⟨(some 43), none, .pick (.t 34) (.t 42) (kB false), [], (some [3, 30, 31, 3, 35, 36, 38, 39])⟩]))
 (.cond (.t 43)
 .skip
 (.exit 0)))
 (.block 1 (.reg [⟨(some 44), none, .mv (.t 8), [], none⟩,
   ⟨(some 45), none, .bin .add (.t 44) (kI 1), [], none⟩,
   ⟨(some 8), none, .mv (.t 45), [], none⟩]))))))
 (.seq (.reg [⟨(some 46), none, .fieldA 1 (.t 3), [], none⟩,
   ⟨(some 47), none, .load none (.t 46), [], none⟩,
   ⟨(some 48), none, .mv (.t 8), [], none⟩,
   ⟨(some 49), none, .mv (.t 1), [], none⟩,
   ⟨(some 50), none, .mv (.t 2), [], none⟩,
   ⟨(some 51), none, .build [.d (.v (.string ⟨#[]⟩)), .d (.v (.int .i64 0))] [(0, 1, (.t 49)), (1, 1, (.t 50))], [], none⟩,
   ⟨(some 52), none, .call 46 [(.t 47), (.t 48), (.t 51)], [], none⟩,
   ⟨(some 53), none, .fieldA 1 (.t 3), [], none⟩,
   ⟨none, none, .store 1 (.t 53) (.t 52), [], none⟩])
 (.seq (.reg [⟨(some 54), none, .load (some 6) (.t 3), [], none⟩,
   ⟨none, none, .store 6 (.t 6) (.t 54), [], (some [3])⟩])
 .ret))))))))⟩
theorem a25_ok : afn Try.prog 25 = some a25.er := by kernel_rfl
theorem F25_ok {x0 : SchedQueue} {x1 : ByteArray} {x2 : Int} {r : ((List WorkItem)) × (List WorkItem) × ((List WorkItem)) × ((List WorkItem))} (h : F25 x0 x1 x2 = some r) : CallD Try.prog 25 [.agg [.d (.sl (x0.Waiting.map eWorkItem)), .d (.sl (x0.Active.map eWorkItem)), .d (.sl (x0.Stuck.map eWorkItem)), .d (.sl (x0.Backoff.map eWorkItem)), .d (.sl (x0.Retries.map eWorkItem)), .d (.v (.int .i64 x0.Cycle))], .c (.d (.v (.string x1))), .c (.d (.v (.int .i64 x2)))] [] (tupV [.agg [.d (.sl (r.1.map eWorkItem)), .d (.sl (r.2.1.map eWorkItem)), .d (.sl (r.2.2.1.map eWorkItem)), .d (.sl (r.2.2.2.map eWorkItem)), .d (.sl (x0.Retries.map eWorkItem)), .d (.v (.int .i64 x0.Cycle))]]) [] := by
  refine callS a25_ok (by simp [a25]) ?_
  rw [F25] at h
  simp only [a25, VW.down, Nat.reduceEqDiff, reduceCtorEq, Nat.reduceAdd, Nat.reduceLeDiff, Nat.reduceLT, Nat.reduceBEq, Nat.reduceSub, EE.down]
  obtain ⟨t1, ht1, h⟩ := Option.bind_eq_some_iff.1 h
  refine callX_n [] (F44_ok ht1) ?_ ?_ ?_ ?_ ?_ ?_
  · first | rfl | simp [nrmA, nrmC, nrm, A1.ren, C.ren, rn, List.length_set]
  · simp [liveAll, A1.live, C.live]
  · rfl
  · decide
  · exact trivial
  simp only [VW.down, Nat.reduceEqDiff, reduceCtorEq, Nat.reduceAdd, Nat.reduceLeDiff, Nat.reduceLT, Nat.reduceBEq, Nat.reduceSub, EE.down]
  obtain ⟨o2, ho, h⟩ := Option.bind_eq_some_iff.1 h
  refine cutS (fun s => s = ⟨[(1, .one (.c (.d (.v (.string x1))))), (2, .one (.c (.d (.v (.int .i64 x2))))), (3, .one (.c (.pt 0 0))), (6, .one (.c (.pt 1 0))), (24, .one (.c (.d (.v (.bool o2)))))], [some (.box [.d (.sl (x0.Waiting.map eWorkItem)), .d (.sl (x0.Active.map eWorkItem)), .d (.sl (x0.Stuck.map eWorkItem)), .d (.sl (x0.Backoff.map eWorkItem)), .d (.sl (x0.Retries.map eWorkItem)), .d (.v (.int .i64 x0.Cycle))]), some (.box [.d (.v (.slice none 0 0)), .d (.v (.slice none 0 0)), .d (.v (.slice none 0 0)), .d (.v (.slice none 0 0)), .d (.v (.slice none 0 0)), .d (.v (.int .i64 0))])]⟩) ?_ ?_
  · have h := ho
    clear ho
    simp only [VW.down, Nat.reduceEqDiff, reduceCtorEq, Nat.reduceAdd, Nat.reduceLeDiff, Nat.reduceLT, Nat.reduceBEq, Nat.reduceSub, EE.down]
    refine guardS (fun g3 => ?_) (fun g3 => ?_)
    · have h := (if_pos g3).symm.trans h
      simp only [VW.down, Nat.reduceEqDiff, reduceCtorEq, Nat.reduceAdd, Nat.reduceLeDiff, Nat.reduceLT, Nat.reduceBEq, Nat.reduceSub, EE.down]
      obtain ⟨y4, hy4, h⟩ := Option.bind_eq_some_iff.1 h
      refine t_idxF (enc := eWorkItem) (xs := x0.Active) rfl rfl hy4 rfl ?_
      simp only [VW.down, Nat.reduceEqDiff, reduceCtorEq, Nat.reduceAdd, Nat.reduceLeDiff, Nat.reduceLT, Nat.reduceBEq, Nat.reduceSub, EE.down]
      obtain rfl := Option.some.inj h
      exact eM [some 0, some 1] rfl
    · have h := (if_neg g3).symm.trans h
      simp only [VW.down, Nat.reduceEqDiff, reduceCtorEq, Nat.reduceAdd, Nat.reduceLeDiff, Nat.reduceLT, Nat.reduceBEq, Nat.reduceSub, EE.down]
      obtain rfl := Option.some.inj h
      exact eM [some 0, some 1] rfl
  · rintro _ rfl
    clear ho
    simp only [VW.down, Nat.reduceEqDiff, reduceCtorEq, Nat.reduceAdd, Nat.reduceLeDiff, Nat.reduceLT, Nat.reduceBEq, Nat.reduceSub, EE.down]
    refine condB (fun c5 => ?_) (fun c5 => ?_)
    · have h := (if_pos c5).symm.trans h
      simp only [VW.down, Nat.reduceEqDiff, reduceCtorEq, Nat.reduceAdd, Nat.reduceLeDiff, Nat.reduceLT, Nat.reduceBEq, Nat.reduceSub, EE.down]
      obtain rfl := Option.some.inj h
      exact eF []
    · have h := (if_neg c5).symm.trans h
      simp only [VW.down, Nat.reduceEqDiff, reduceCtorEq, Nat.reduceAdd, Nat.reduceLeDiff, Nat.reduceLT, Nat.reduceBEq, Nat.reduceSub, EE.down]
      obtain ⟨t6, ht6, h⟩ := Option.bind_eq_some_iff.1 h
      refine callX_n [] (F45_ok ht6) ?_ ?_ ?_ ?_ ?_ ?_
      · first | rfl | simp [nrmA, nrmC, nrm, A1.ren, C.ren, rn, List.length_set]
      · simp [liveAll, A1.live, C.live]
      · rfl
      · decide
      · exact trivial
      simp only [VW.down, Nat.reduceEqDiff, reduceCtorEq, Nat.reduceAdd, Nat.reduceLeDiff, Nat.reduceLT, Nat.reduceBEq, Nat.reduceSub, EE.down]
      obtain ⟨o7, ho, h⟩ := Option.bind_eq_some_iff.1 h
      refine cutS (fun s => s = ⟨[(1, .one (.c (.d (.v (.string x1))))), (2, .one (.c (.d (.v (.int .i64 x2))))), (3, .one (.c (.pt 0 0))), (6, .one (.c (.pt 1 0))), (8, .one (.c (.d (.v (.int .i64 o7)))))], [some (.box [.d (.sl (t6.1.map eWorkItem)), .d (.sl (t6.2.1.map eWorkItem)), .d (.sl (t6.2.2.1.map eWorkItem)), .d (.sl (t6.2.2.2.map eWorkItem)), .d (.sl (x0.Retries.map eWorkItem)), .d (.v (.int .i64 x0.Cycle))]), some (.box [.d (.v (.slice none 0 0)), .d (.v (.slice none 0 0)), .d (.v (.slice none 0 0)), .d (.v (.slice none 0 0)), .d (.v (.slice none 0 0)), .d (.v (.int .i64 0))])]⟩) ?_ ?_
      · have h := ho
        clear ho
        simp only [VW.down, Nat.reduceEqDiff, reduceCtorEq, Nat.reduceAdd, Nat.reduceLeDiff, Nat.reduceLT, Nat.reduceBEq, Nat.reduceSub, EE.down]
        refine bL (fun j s => ∃ (o7_0 : Int), s = ⟨[(1, .one (.c (.d (.v (.string x1))))), (2, .one (.c (.d (.v (.int .i64 x2))))), (3, .one (.c (.pt 0 0))), (6, .one (.c (.pt 1 0))), (8, .one (.c (.d (.v (.int .i64 o7_0)))))], [some (.box [.d (.sl (t6.1.map eWorkItem)), .d (.sl (t6.2.1.map eWorkItem)), .d (.sl (t6.2.2.1.map eWorkItem)), .d (.sl (t6.2.2.2.map eWorkItem)), .d (.sl (x0.Retries.map eWorkItem)), .d (.v (.int .i64 x0.Cycle))]), some (.box [.d (.v (.slice none 0 0)), .d (.v (.slice none 0 0)), .d (.v (.slice none 0 0)), .d (.v (.slice none 0 0)), .d (.v (.slice none 0 0)), .d (.v (.int .i64 0))])]⟩ ∧ F25_l7 t6 x2 j o7_0 = some o7) 1099511627776 [some 0, some 1] ⟨0, rfl, h⟩ ?_
        rintro j _ ⟨o7_0, rfl, h⟩
        cases j with
        | zero => cases (show (none : Option _) = some _ from h)
        | succ j =>
          rw [F25_l7] at h
          simp only [VW.down, Nat.reduceEqDiff, reduceCtorEq, Nat.reduceAdd, Nat.reduceLeDiff, Nat.reduceLT, Nat.reduceBEq, Nat.reduceSub, EE.down]
          obtain ⟨o8, ho, h⟩ := Option.bind_eq_some_iff.1 h
          refine cutS (fun s => s = ⟨[(1, .one (.c (.d (.v (.string x1))))), (2, .one (.c (.d (.v (.int .i64 x2))))), (3, .one (.c (.pt 0 0))), (6, .one (.c (.pt 1 0))), (8, .one (.c (.d (.v (.int .i64 o7_0))))), (43, .one (.c (.d (.v (.bool o8)))))], [some (.box [.d (.sl (t6.1.map eWorkItem)), .d (.sl (t6.2.1.map eWorkItem)), .d (.sl (t6.2.2.1.map eWorkItem)), .d (.sl (t6.2.2.2.map eWorkItem)), .d (.sl (x0.Retries.map eWorkItem)), .d (.v (.int .i64 x0.Cycle))]), some (.box [.d (.v (.slice none 0 0)), .d (.v (.slice none 0 0)), .d (.v (.slice none 0 0)), .d (.v (.slice none 0 0)), .d (.v (.slice none 0 0)), .d (.v (.int .i64 0))])]⟩) ?_ ?_
          · have h := ho
            clear ho
            simp only [VW.down, Nat.reduceEqDiff, reduceCtorEq, Nat.reduceAdd, Nat.reduceLeDiff, Nat.reduceLT, Nat.reduceBEq, Nat.reduceSub, EE.down]
            refine guardS (fun g9 => ?_) (fun g9 => ?_)
            · have h := (if_pos g9).symm.trans h
              simp only [VW.down, Nat.reduceEqDiff, reduceCtorEq, Nat.reduceAdd, Nat.reduceLeDiff, Nat.reduceLT, Nat.reduceBEq, Nat.reduceSub, EE.down]
              obtain ⟨y10, hy10, h⟩ := Option.bind_eq_some_iff.1 h
              refine t_idxF (enc := eWorkItem) (xs := t6.2.1) rfl rfl hy10 rfl ?_
              simp only [VW.down, Nat.reduceEqDiff, reduceCtorEq, Nat.reduceAdd, Nat.reduceLeDiff, Nat.reduceLT, Nat.reduceBEq, Nat.reduceSub, EE.down]
              obtain rfl := Option.some.inj h
              exact eM [some 0, some 1] rfl
            · have h := (if_neg g9).symm.trans h
              simp only [VW.down, Nat.reduceEqDiff, reduceCtorEq, Nat.reduceAdd, Nat.reduceLeDiff, Nat.reduceLT, Nat.reduceBEq, Nat.reduceSub, EE.down]
              obtain rfl := Option.some.inj h
              exact eM [some 0, some 1] rfl
          · rintro _ rfl
            clear ho
            simp only [VW.down, Nat.reduceEqDiff, reduceCtorEq, Nat.reduceAdd, Nat.reduceLeDiff, Nat.reduceLT, Nat.reduceBEq, Nat.reduceSub, EE.down]
            refine condB (fun c11 => ?_) (fun c11 => ?_)
            · have h := (if_pos c11).symm.trans h
              simp only [VW.down, Nat.reduceEqDiff, reduceCtorEq, Nat.reduceAdd, Nat.reduceLeDiff, Nat.reduceLT, Nat.reduceBEq, Nat.reduceSub, EE.down]
              exact eL' j [some 0, some 1] ⟨(IntKind.i64.wrap (o7_0 + 1)), rfl, h⟩ (Nat.lt_succ_self _)
            · have h := (if_neg c11).symm.trans h
              simp only [VW.down, Nat.reduceEqDiff, reduceCtorEq, Nat.reduceAdd, Nat.reduceLeDiff, Nat.reduceLT, Nat.reduceBEq, Nat.reduceSub, EE.down]
              obtain rfl := Option.some.inj h
              exact eM [some 0, some 1] rfl
      · rintro _ rfl
        clear ho
        simp only [VW.down, Nat.reduceEqDiff, reduceCtorEq, Nat.reduceAdd, Nat.reduceLeDiff, Nat.reduceLT, Nat.reduceBEq, Nat.reduceSub, EE.down]
        obtain ⟨t12, ht12, h⟩ := Option.bind_eq_some_iff.1 h
        refine callX_n [] (F46_ok ht12) ?_ ?_ ?_ ?_ ?_ ?_
        · first | rfl | simp [nrmA, nrmC, nrm, A1.ren, C.ren, rn, List.length_set]
        · simp [liveAll, A1.live, C.live]
        · rfl
        · decide
        · exact trivial
        simp only [VW.down, Nat.reduceEqDiff, reduceCtorEq, Nat.reduceAdd, Nat.reduceLeDiff, Nat.reduceLT, Nat.reduceBEq, Nat.reduceSub, EE.down]
        obtain rfl := Option.some.inj h
        exact eF []

/- orchestrator/orchestratorref42.Pop -/
def F26 (x0 : SchedQueue) : Option (SchedQueue × ByteArray × Bool) := (if (x0.Active.length : Int) = 0 then some ((x0, (⟨#[]⟩ : ByteArray), false)) else (rdI x0.Active 0).bind fun y2 => (slI x0.Active 1 ((x0.Active.length : Int))).bind fun s3 => some (((⟨x0.Waiting, s3, x0.Stuck, x0.Backoff, x0.Retries, (IntKind.i64.wrap (x0.Cycle + 1))⟩ : SchedQueue), y2.Key, true)))
def a26 : AFn := ⟨26, [(.cell 2 (some 6)), (.tmp 3), (.tmp 4)],
 (.seq (.reg [⟨(some 1), none, .box (.t 0), [], none⟩,
   ⟨(some 2), none, .zbox [.d (.v (.slice none 0 0)), .d (.v (.slice none 0 0)), .d (.v (.slice none 0 0)), .d (.v (.slice none 0 0)), .d (.v (.slice none 0 0)), .d (.v (.int .i64 0))], [], none⟩,
   ⟨(some 3), none, .mv (kS ⟨#[]⟩), [], none⟩,
   ⟨(some 4), none, .mv (kB false), [], none⟩])
 (.seq (.seq (.reg [⟨(some 6), none, .fieldA 1 (.t 1), [], none⟩,
   ⟨(some 7), none, .load none (.t 6), [], none⟩,
   ⟨(some 8), none, .len (.t 7), [], none⟩,
   ⟨(some 9), none, .bin .eql (.t 8) (kI 0), [], none⟩])
 (.cond (.t 9)
 (.seq (.reg [⟨(some 10), none, .load (some 6) (.t 1), [], none⟩,
   ⟨none, none, .store 6 (.t 2) (.t 10), [], none⟩,
   ⟨(some 3), none, .mv (kS ⟨#[]⟩), [], none⟩,
   ⟨(some 4), none, .mv (kB false), [], none⟩])
 .ret)
 .skip))
 (.seq (.reg [⟨(some 11), none, .fieldA 1 (.t 1), [], none⟩,
   ⟨(some 12), none, .load none (.t 11), [], none⟩,
   ⟨(some 13), none, .indexA 2 (.t 12) (kI 0), [], none⟩,
   ⟨(some 14), none, .fieldA 0 (.t 13), [], none⟩,
   ⟨(some 15), none, .load none (.t 14), [], none⟩,
   ⟨(some 5), none, .mv (.t 15), [], none⟩])
 (.seq (.reg [⟨(some 16), none, .fieldA 1 (.t 1), [], none⟩,
   ⟨(some 17), none, .load none (.t 16), [], none⟩,
   ⟨(some 18), none, .slice 2 (.t 17) (some (kI 1)) none none, [], none⟩,
   ⟨(some 19), none, .fieldA 1 (.t 1), [], none⟩,
   ⟨none, none, .store 1 (.t 19) (.t 18), [], none⟩])
 (.seq (.reg [⟨(some 20), none, .fieldA 5 (.t 1), [], none⟩,
   ⟨(some 21), none, .load none (.t 20), [], none⟩,
   ⟨(some 22), none, .bin .add (.t 21) (kI 1), [], none⟩,
   ⟨(some 23), none, .fieldA 5 (.t 1), [], none⟩,
   ⟨none, none, .store 1 (.t 23) (.t 22), [], (some [1, 20, 1])⟩])
 (.seq (.reg [⟨(some 24), none, .load (some 6) (.t 1), [], none⟩,
   ⟨(some 25), none, .mv (.t 5), [], none⟩,
   ⟨none, none, .store 6 (.t 2) (.t 24), [], none⟩,
   ⟨(some 3), none, .mv (.t 25), [], none⟩,
   ⟨(some 4), none, .mv (kB true), [], none⟩])
 .ret))))))⟩
theorem a26_ok : afn Try.prog 26 = some a26.er := by kernel_rfl
theorem F26_ok {x0 : SchedQueue} {r : SchedQueue × ByteArray × Bool} (h : F26 x0 = some r) : CallD Try.prog 26 [.agg [.d (.sl (x0.Waiting.map eWorkItem)), .d (.sl (x0.Active.map eWorkItem)), .d (.sl (x0.Stuck.map eWorkItem)), .d (.sl (x0.Backoff.map eWorkItem)), .d (.sl (x0.Retries.map eWorkItem)), .d (.v (.int .i64 x0.Cycle))]] [] (tupV [.agg [.d (.sl (((r.1).Waiting).map eWorkItem)), .d (.sl (((r.1).Active).map eWorkItem)), .d (.sl (((r.1).Stuck).map eWorkItem)), .d (.sl (((r.1).Backoff).map eWorkItem)), .d (.sl (((r.1).Retries).map eWorkItem)), .d (.v (.int .i64 ((r.1).Cycle)))], .c (.d (.v (.string r.2.1))), .c (.d (.v (.bool r.2.2)))]) [] := by
  refine callS a26_ok (by simp [a26]) ?_
  rw [F26] at h
  simp only [a26, VW.down, Nat.reduceEqDiff, reduceCtorEq, Nat.reduceAdd, Nat.reduceLeDiff, Nat.reduceLT, Nat.reduceBEq, Nat.reduceSub, EE.down]
  refine condS (fun c1 => ?_) (fun c1 => ?_)
  · have h := (if_pos c1).symm.trans h
    simp only [VW.down, Nat.reduceEqDiff, reduceCtorEq, Nat.reduceAdd, Nat.reduceLeDiff, Nat.reduceLT, Nat.reduceBEq, Nat.reduceSub, EE.down]
    obtain rfl := Option.some.inj h
    exact eF []
  · have h := (if_neg c1).symm.trans h
    simp only [VW.down, Nat.reduceEqDiff, reduceCtorEq, Nat.reduceAdd, Nat.reduceLeDiff, Nat.reduceLT, Nat.reduceBEq, Nat.reduceSub, EE.down]
    obtain ⟨y2, hy2, h⟩ := Option.bind_eq_some_iff.1 h
    refine t_idxF (enc := eWorkItem) (xs := x0.Active) rfl rfl hy2 rfl ?_
    simp only [VW.down, Nat.reduceEqDiff, reduceCtorEq, Nat.reduceAdd, Nat.reduceLeDiff, Nat.reduceLT, Nat.reduceBEq, Nat.reduceSub, EE.down]
    obtain ⟨s3, hs3, h⟩ := Option.bind_eq_some_iff.1 h
    refine t_slice (enc := eWorkItem) (xs := x0.Active) rfl rfl rfl (fun _ => rfl) hs3 ?_
    simp only [VW.down, Nat.reduceEqDiff, reduceCtorEq, Nat.reduceAdd, Nat.reduceLeDiff, Nat.reduceLT, Nat.reduceBEq, Nat.reduceSub, EE.down]
    obtain rfl := Option.some.inj h
    exact eF []

/- orchestrator/orchestratorref42.Stuck -/
def F27 (x0 : SchedQueue) (x1 : ByteArray) (x2 : Int) : Option (((List WorkItem)) × ((List WorkItem)) × (List WorkItem) × ((List WorkItem))) := (((F45 x0 x1).bind fun t2 => some ((t2.1, t2.2.1, t2.2.2.1, t2.2.2.2))).bind fun o1 => (F46 o1.2.2.1 ((o1.2.2.1.length : Int)) ((⟨x1, x2⟩ : WorkItem))).bind fun t3 => some ((o1.1, o1.2.1, t3, o1.2.2.2)))
def a27 : AFn := ⟨21, [(.cell 6 (some 6))],
 (.seq (.reg [⟨(some 3), none, .box (.t 0), [], none⟩,
   ⟨(some 6), none, .zbox [.d (.v (.slice none 0 0)), .d (.v (.slice none 0 0)), .d (.v (.slice none 0 0)), .d (.v (.slice none 0 0)), .d (.v (.slice none 0 0)), .d (.v (.int .i64 0))], [], none⟩])
 (.seq (.sem (.reg [⟨(some 7), none, .load (some 6) (.t 3), [], none⟩,
   ⟨(some 8), none, .mv (.t 1), [], none⟩,
   ⟨(some 9), none, .call 45 [(.t 7), (.t 8)], [], none⟩,
   ⟨none, none, .store 6 (.t 3) (.t 9), [], none⟩]))
 (.seq (.reg [⟨(some 10), none, .fieldA 2 (.t 3), [], none⟩,
   ⟨(some 11), none, .load none (.t 10), [], none⟩,
   ⟨(some 12), none, .fieldA 2 (.t 3), [], none⟩,
   ⟨(some 13), none, .load none (.t 12), [], none⟩,
   ⟨(some 14), none, .len (.t 13), [], none⟩,
   ⟨(some 15), none, .mv (.t 1), [], none⟩,
   ⟨(some 16), none, .mv (.t 2), [], none⟩,
   ⟨(some 17), none, .build [.d (.v (.string ⟨#[]⟩)), .d (.v (.int .i64 0))] [(0, 1, (.t 15)), (1, 1, (.t 16))], [], none⟩,
   ⟨(some 18), none, .call 46 [(.t 11), (.t 14), (.t 17)], [], none⟩,
   ⟨(some 19), none, .fieldA 2 (.t 3), [], none⟩,
   ⟨none, none, .store 1 (.t 19) (.t 18), [], none⟩])
 (.seq (.reg [⟨(some 20), none, .load (some 6) (.t 3), [], none⟩,
   ⟨none, none, .store 6 (.t 6) (.t 20), [], (some [3])⟩])
 .ret))))⟩
theorem a27_ok : afn Try.prog 27 = some a27.er := by kernel_rfl
theorem F27_ok {x0 : SchedQueue} {x1 : ByteArray} {x2 : Int} {r : ((List WorkItem)) × ((List WorkItem)) × (List WorkItem) × ((List WorkItem))} (h : F27 x0 x1 x2 = some r) : CallD Try.prog 27 [.agg [.d (.sl (x0.Waiting.map eWorkItem)), .d (.sl (x0.Active.map eWorkItem)), .d (.sl (x0.Stuck.map eWorkItem)), .d (.sl (x0.Backoff.map eWorkItem)), .d (.sl (x0.Retries.map eWorkItem)), .d (.v (.int .i64 x0.Cycle))], .c (.d (.v (.string x1))), .c (.d (.v (.int .i64 x2)))] [] (tupV [.agg [.d (.sl (r.1.map eWorkItem)), .d (.sl (r.2.1.map eWorkItem)), .own 0 0 0 (r.2.2.1.length) none, .d (.sl (r.2.2.2.map eWorkItem)), .d (.sl (x0.Retries.map eWorkItem)), .d (.v (.int .i64 x0.Cycle))]]) [some (.arr 0 2 (r.2.2.1.map eWorkItem))] := by
  refine callS a27_ok (by simp [a27]) ?_
  rw [F27] at h
  simp only [a27, VW.down, Nat.reduceEqDiff, reduceCtorEq, Nat.reduceAdd, Nat.reduceLeDiff, Nat.reduceLT, Nat.reduceBEq, Nat.reduceSub, EE.down]
  obtain ⟨o1, ho, h⟩ := Option.bind_eq_some_iff.1 h
  refine cutS (fun s => s = ⟨[(1, .one (.c (.d (.v (.string x1))))), (2, .one (.c (.d (.v (.int .i64 x2))))), (3, .one (.c (.pt 0 0))), (6, .one (.c (.pt 1 0)))], [some (.box [.d (.sl (o1.1.map eWorkItem)), .d (.sl (o1.2.1.map eWorkItem)), .d (.sl (o1.2.2.1.map eWorkItem)), .d (.sl (o1.2.2.2.map eWorkItem)), .d (.sl (x0.Retries.map eWorkItem)), .d (.v (.int .i64 x0.Cycle))]), some (.box [.d (.v (.slice none 0 0)), .d (.v (.slice none 0 0)), .d (.v (.slice none 0 0)), .d (.v (.slice none 0 0)), .d (.v (.slice none 0 0)), .d (.v (.int .i64 0))])]⟩) ?_ ?_
  · have h := ho
    clear ho
    simp only [VW.down, Nat.reduceEqDiff, reduceCtorEq, Nat.reduceAdd, Nat.reduceLeDiff, Nat.reduceLT, Nat.reduceBEq, Nat.reduceSub, EE.down]
    obtain ⟨t2, ht2, h⟩ := Option.bind_eq_some_iff.1 h
    refine callX_n [] (F45_ok ht2) ?_ ?_ ?_ ?_ ?_ ?_
    · first | rfl | simp [nrmA, nrmC, nrm, A1.ren, C.ren, rn, List.length_set]
    · simp [liveAll, A1.live, C.live]
    · rfl
    · decide
    · exact trivial
    simp only [VW.down, Nat.reduceEqDiff, reduceCtorEq, Nat.reduceAdd, Nat.reduceLeDiff, Nat.reduceLT, Nat.reduceBEq, Nat.reduceSub, EE.down]
    obtain rfl := Option.some.inj h
    exact eM [some 0, some 1] rfl
  · rintro _ rfl
    clear ho
    simp only [VW.down, Nat.reduceEqDiff, reduceCtorEq, Nat.reduceAdd, Nat.reduceLeDiff, Nat.reduceLT, Nat.reduceBEq, Nat.reduceSub, EE.down]
    obtain ⟨t3, ht3, h⟩ := Option.bind_eq_some_iff.1 h
    refine callX_n [] (F46_ok ht3) ?_ ?_ ?_ ?_ ?_ ?_
    · first | rfl | simp [nrmA, nrmC, nrm, A1.ren, C.ren, rn, List.length_set]
    · simp [liveAll, A1.live, C.live]
    · rfl
    · decide
    · exact trivial
    simp only [VW.down, Nat.reduceEqDiff, reduceCtorEq, Nat.reduceAdd, Nat.reduceLeDiff, Nat.reduceLT, Nat.reduceBEq, Nat.reduceSub, EE.down]
    obtain rfl := Option.some.inj h
    exact eF [some 2]

/- orchestrator/orchestratorref42.byKey -/
def F47_l2 (t1 : (List WorkItem)) (x1 : WorkItem) : Nat → Int → Option (Int)
  | 0, _ => none
  | k + 1, o2_0 => (((if o2_0 < (t1.length : Int) then (rdI t1 o2_0).bind fun y5 => some (Op.bytesLess y5.Key.toList x1.Key.toList) else some false)).bind fun o3 => (if o3 = true then F47_l2 t1 x1 k ((IntKind.i64.wrap (o2_0 + 1))) else some o2_0))
def F47 (x0 : (List WorkItem)) (x1 : WorkItem) : Option ((List WorkItem)) := (F50 x0 x1.Key).bind fun t1 => ((F47_l2 t1 x1 1099511627776 0).bind fun o2 => (F46 t1 o2 x1).bind fun t7 => some t7)
def a47 : AFn := ⟨30, [(.tmp 4)],
 (.seq (.reg [⟨(some 3), none, .box (.t 1), [], none⟩,
   ⟨(some 4), none, .mv kN, [], none⟩])
 (.seq (.reg [⟨(some 6), none, .mv (.t 0), [], none⟩,
   ⟨(some 7), none, .fieldA 0 (.t 3), [], none⟩,
   ⟨(some 8), none, .load none (.t 7), [], none⟩,
   ⟨(some 9), none, .call 50 [(.t 6), (.t 8)], [], none⟩,
   ⟨(some 0), none, .mv (.t 9), [], none⟩])
 (.seq (.reg [⟨(some 5), none, .mv (kI 0), [], none⟩])
 (.seq (.sem (.block 0 (.loop (.seq (.seq (.sem (.regd [⟨(some 10), none, .mv (.t 5), [], none⟩,
   ⟨(some 11), none, .mv (.t 0), [], none⟩,
   ⟨(some 12), none, .len (.t 11), [1], none⟩,
   ⟨(some 13), none, .bin .lss (.t 10) (.t 12), [0, 1, 2], none⟩,
   ⟨(some 14), none, .mv (.t 13), [0, 1, 2, 3], none⟩,
   ⟨(some 15), (some (14, true)), .mv (.t 0), [0, 1, 2, 3, 4], none⟩,
   ⟨(some 16), (some (14, true)), .mv (.t 5), [0, 1, 2, 3, 4], none⟩,
   ⟨(some 17), (some (14, true)), .indexA 2 (.t 15) (.t 16), [0, 1, 2, 3, 4, 5, 6], none⟩,
   ⟨(some 18), (some (14, true)), .fieldA 0 (.t 17), [0, 1, 2, 3, 4, 5, 6, 7], none⟩,
   ⟨(some 19), (some (14, true)), .load none (.t 18), [0, 1, 2, 3, 4, 5, 6, 7, 8], none⟩,
   ⟨(some 20), (some (14, true)), .fieldA 0 (.t 3), [0, 1, 2, 3, 4], none⟩,
   ⟨(some 21), (some (14, true)), .load none (.t 20), [0, 1, 2, 3, 4, 10], none⟩,
   ⟨(some 22), (some (14, true)), .bin .lss (.t 19) (.t 21), [0, 1, 2, 3, 4, 5, 6, 7, 8, 9, 10, 11], none⟩,
   ⟨(some 23), none, .pick (.t 14) (.t 22) (kB false), [0, 1, 2, 3, 4, 5, 6, 7, 8, 9, 10, 11, 12], (some [])⟩]))
 (.cond (.t 23)
 .skip
 (.exit 0)))
 (.block 1 (.reg [⟨(some 24), none, .mv (.t 5), [], none⟩,
   ⟨(some 25), none, .bin .add (.t 24) (kI 1), [], none⟩,
   ⟨(some 5), none, .mv (.t 25), [], none⟩]))))))
 (.seq (.reg [⟨(some 26), none, .mv (.t 0), [], none⟩,
   ⟨(some 27), none, .mv (.t 5), [], none⟩,
   ⟨(some 28), none, .load (some 2) (.t 3), [], none⟩,
   ⟨(some 29), none, .call 46 [(.t 26), (.t 27), (.t 28)], [], none⟩,
   ⟨(some 4), none, .mv (.t 29), [], none⟩])
 .ret)))))⟩
theorem a47_ok : afn Try.prog 47 = some a47.er := by kernel_rfl
theorem F47_ok {x0 : (List WorkItem)} {x1 : WorkItem} {r : (List WorkItem)} (h : F47 x0 x1 = some r) : CallD Try.prog 47 [.c (.d (.sl (x0.map eWorkItem))), .agg [.d (.v (.string x1.Key)), .d (.v (.int .i64 x1.At))]] [] (tupV [.c (.own 0 0 0 (r.length) none)]) [some (.arr 0 2 (r.map eWorkItem))] := by
  refine callS a47_ok (by simp [a47]) ?_
  rw [F47] at h
  simp only [a47, VW.down, Nat.reduceEqDiff, reduceCtorEq, Nat.reduceAdd, Nat.reduceLeDiff, Nat.reduceLT, Nat.reduceBEq, Nat.reduceSub, EE.down]
  obtain ⟨t1, ht1, h⟩ := Option.bind_eq_some_iff.1 h
  refine callX_n [] (F50_ok ht1) ?_ ?_ ?_ ?_ ?_ ?_
  · first | rfl | simp [nrmA, nrmC, nrm, A1.ren, C.ren, rn, List.length_set]
  · simp [liveAll, A1.live, C.live]
  · rfl
  · decide
  · exact trivial
  simp only [VW.down, Nat.reduceEqDiff, reduceCtorEq, Nat.reduceAdd, Nat.reduceLeDiff, Nat.reduceLT, Nat.reduceBEq, Nat.reduceSub, EE.down]
  obtain ⟨o2, ho, h⟩ := Option.bind_eq_some_iff.1 h
  refine cutS (fun s => s = ⟨[(0, .one (.c (.d (.sl (t1.map eWorkItem))))), (3, .one (.c (.pt 0 0))), (5, .one (.c (.d (.v (.int .i64 o2)))))], [some (.box [.d (.v (.string x1.Key)), .d (.v (.int .i64 x1.At))])]⟩) ?_ ?_
  · have h := ho
    clear ho
    simp only [VW.down, Nat.reduceEqDiff, reduceCtorEq, Nat.reduceAdd, Nat.reduceLeDiff, Nat.reduceLT, Nat.reduceBEq, Nat.reduceSub, EE.down]
    refine bL (fun j s => ∃ (o2_0 : Int), s = ⟨[(0, .one (.c (.d (.sl (t1.map eWorkItem))))), (3, .one (.c (.pt 0 0))), (5, .one (.c (.d (.v (.int .i64 o2_0)))))], [some (.box [.d (.v (.string x1.Key)), .d (.v (.int .i64 x1.At))])]⟩ ∧ F47_l2 t1 x1 j o2_0 = some o2) 1099511627776 [some 0] ⟨0, rfl, h⟩ ?_
    rintro j _ ⟨o2_0, rfl, h⟩
    cases j with
    | zero => cases (show (none : Option _) = some _ from h)
    | succ j =>
      rw [F47_l2] at h
      simp only [VW.down, Nat.reduceEqDiff, reduceCtorEq, Nat.reduceAdd, Nat.reduceLeDiff, Nat.reduceLT, Nat.reduceBEq, Nat.reduceSub, EE.down]
      obtain ⟨o3, ho, h⟩ := Option.bind_eq_some_iff.1 h
      refine cutS (fun s => s = ⟨[(0, .one (.c (.d (.sl (t1.map eWorkItem))))), (3, .one (.c (.pt 0 0))), (5, .one (.c (.d (.v (.int .i64 o2_0))))), (23, .one (.c (.d (.v (.bool o3)))))], [some (.box [.d (.v (.string x1.Key)), .d (.v (.int .i64 x1.At))])]⟩) ?_ ?_
      · have h := ho
        clear ho
        simp only [VW.down, Nat.reduceEqDiff, reduceCtorEq, Nat.reduceAdd, Nat.reduceLeDiff, Nat.reduceLT, Nat.reduceBEq, Nat.reduceSub, EE.down]
        refine guardD (fun g4 => ?_) (fun g4 => ?_)
        · have h := (if_pos g4).symm.trans h
          simp only [VW.down, Nat.reduceEqDiff, reduceCtorEq, Nat.reduceAdd, Nat.reduceLeDiff, Nat.reduceLT, Nat.reduceBEq, Nat.reduceSub, EE.down]
          obtain ⟨y5, hy5, h⟩ := Option.bind_eq_some_iff.1 h
          refine t_idxF (enc := eWorkItem) (xs := t1) rfl rfl hy5 rfl ?_
          simp only [VW.down, Nat.reduceEqDiff, reduceCtorEq, Nat.reduceAdd, Nat.reduceLeDiff, Nat.reduceLT, Nat.reduceBEq, Nat.reduceSub, EE.down]
          obtain rfl := Option.some.inj h
          exact eM [some 0] rfl
        · have h := (if_neg g4).symm.trans h
          simp only [VW.down, Nat.reduceEqDiff, reduceCtorEq, Nat.reduceAdd, Nat.reduceLeDiff, Nat.reduceLT, Nat.reduceBEq, Nat.reduceSub, EE.down]
          obtain rfl := Option.some.inj h
          exact eM [some 0] rfl
      · rintro _ rfl
        clear ho
        simp only [VW.down, Nat.reduceEqDiff, reduceCtorEq, Nat.reduceAdd, Nat.reduceLeDiff, Nat.reduceLT, Nat.reduceBEq, Nat.reduceSub, EE.down]
        refine condB (fun c6 => ?_) (fun c6 => ?_)
        · have h := (if_pos c6).symm.trans h
          simp only [VW.down, Nat.reduceEqDiff, reduceCtorEq, Nat.reduceAdd, Nat.reduceLeDiff, Nat.reduceLT, Nat.reduceBEq, Nat.reduceSub, EE.down]
          exact eL' j [some 0] ⟨(IntKind.i64.wrap (o2_0 + 1)), rfl, h⟩ (Nat.lt_succ_self _)
        · have h := (if_neg c6).symm.trans h
          simp only [VW.down, Nat.reduceEqDiff, reduceCtorEq, Nat.reduceAdd, Nat.reduceLeDiff, Nat.reduceLT, Nat.reduceBEq, Nat.reduceSub, EE.down]
          obtain rfl := Option.some.inj h
          exact eM [some 0] rfl
  · rintro _ rfl
    clear ho
    simp only [VW.down, Nat.reduceEqDiff, reduceCtorEq, Nat.reduceAdd, Nat.reduceLeDiff, Nat.reduceLT, Nat.reduceBEq, Nat.reduceSub, EE.down]
    obtain ⟨t7, ht7, h⟩ := Option.bind_eq_some_iff.1 h
    refine callX_n [] (F46_ok ht7) ?_ ?_ ?_ ?_ ?_ ?_
    · first | rfl | simp [nrmA, nrmC, nrm, A1.ren, C.ren, rn, List.length_set]
    · simp [liveAll, A1.live, C.live]
    · rfl
    · decide
    · exact trivial
    simp only [VW.down, Nat.reduceEqDiff, reduceCtorEq, Nat.reduceAdd, Nat.reduceLeDiff, Nat.reduceLT, Nat.reduceBEq, Nat.reduceSub, EE.down]
    obtain rfl := Option.some.inj h
    exact eF [some 1]

/- orchestrator/orchestratorref42.clamp -/
def F48 (x0 : Int) : Option (Int) := (if x0 < 0 then some 0 else (if 1000000000000 < x0 then some 1000000000000 else some x0))
def a48 : AFn := ⟨8, [(.tmp 2)],
 (.seq (.reg [⟨(some 2), none, .mv (kI 0), [], none⟩])
 (.seq (.seq (.reg [⟨(some 3), none, .mv (.t 0), [], none⟩,
   ⟨(some 4), none, .bin .lss (.t 3) (kI 0), [], none⟩])
 (.cond (.t 4)
 (.seq (.reg [⟨(some 2), none, .mv (kI 0), [], none⟩])
 .ret)
 .skip))
 (.seq (.seq (.reg [⟨(some 5), none, .mv (.t 0), [], none⟩,
   ⟨(some 6), none, .bin .gtr (.t 5) (kI 1000000000000), [], none⟩])
 (.cond (.t 6)
 (.seq (.reg [⟨(some 2), none, .mv (kI 1000000000000), [], none⟩])
 .ret)
 .skip))
 (.seq (.reg [⟨(some 7), none, .mv (.t 0), [], none⟩,
   ⟨(some 2), none, .mv (.t 7), [], none⟩])
 .ret))))⟩
theorem a48_ok : afn Try.prog 48 = some a48.er := by kernel_rfl
theorem F48_ok {x0 : Int} {r : Int} (h : F48 x0 = some r) : CallD Try.prog 48 [.c (.d (.v (.int .i64 x0)))] [] (tupV [.c (.d (.v (.int .i64 r)))]) [] := by
  refine callS a48_ok (by simp [a48]) ?_
  rw [F48] at h
  simp only [a48, VW.down, Nat.reduceEqDiff, reduceCtorEq, Nat.reduceAdd, Nat.reduceLeDiff, Nat.reduceLT, Nat.reduceBEq, Nat.reduceSub, EE.down]
  refine condS (fun c1 => ?_) (fun c1 => ?_)
  · have h := (if_pos c1).symm.trans h
    simp only [VW.down, Nat.reduceEqDiff, reduceCtorEq, Nat.reduceAdd, Nat.reduceLeDiff, Nat.reduceLT, Nat.reduceBEq, Nat.reduceSub, EE.down]
    obtain rfl := Option.some.inj h
    exact eF []
  · have h := (if_neg c1).symm.trans h
    simp only [VW.down, Nat.reduceEqDiff, reduceCtorEq, Nat.reduceAdd, Nat.reduceLeDiff, Nat.reduceLT, Nat.reduceBEq, Nat.reduceSub, EE.down]
    refine condS (fun c2 => ?_) (fun c2 => ?_)
    · have h := (if_pos c2).symm.trans h
      simp only [VW.down, Nat.reduceEqDiff, reduceCtorEq, Nat.reduceAdd, Nat.reduceLeDiff, Nat.reduceLT, Nat.reduceBEq, Nat.reduceSub, EE.down]
      obtain rfl := Option.some.inj h
      exact eF []
    · have h := (if_neg c2).symm.trans h
      simp only [VW.down, Nat.reduceEqDiff, reduceCtorEq, Nat.reduceAdd, Nat.reduceLeDiff, Nat.reduceLT, Nat.reduceBEq, Nat.reduceSub, EE.down]
      obtain rfl := Option.some.inj h
      exact eF []

/- orchestrator/orchestratorref30.clamp -/
def F62 (x0 : Int) (x1 : Int) : Option (Int) := (if x0 < 0 then some 0 else (if x1 < x0 then some x1 else some x0))
def a62 : AFn := ⟨12, [(.tmp 4)],
 (.seq (.reg [⟨(some 4), none, .mv (kI 0), [], none⟩])
 (.seq (.seq (.reg [⟨(some 5), none, .mv (.t 0), [], none⟩,
   ⟨(some 6), none, .bin .lss (.t 5) (kI 0), [], none⟩])
 (.cond (.t 6)
 (.seq (.reg [⟨(some 4), none, .mv (kI 0), [], none⟩])
 .ret)
 .skip))
 (.seq (.seq (.reg [⟨(some 7), none, .mv (.t 0), [], none⟩,
   ⟨(some 8), none, .mv (.t 1), [], none⟩,
   ⟨(some 9), none, .bin .gtr (.t 7) (.t 8), [], none⟩])
 (.cond (.t 9)
 (.seq (.reg [⟨(some 10), none, .mv (.t 1), [], none⟩,
   ⟨(some 4), none, .mv (.t 10), [], none⟩])
 .ret)
 .skip))
 (.seq (.reg [⟨(some 11), none, .mv (.t 0), [], none⟩,
   ⟨(some 4), none, .mv (.t 11), [], none⟩])
 .ret))))⟩
theorem a62_ok : afn Try.prog 62 = some a62.er := by kernel_rfl
theorem F62_ok {x0 : Int} {x1 : Int} {r : Int} (h : F62 x0 x1 = some r) : CallD Try.prog 62 [.c (.d (.v (.int .i64 x0))), .c (.d (.v (.int .i64 x1)))] [] (tupV [.c (.d (.v (.int .i64 r)))]) [] := by
  refine callS a62_ok (by simp [a62]) ?_
  rw [F62] at h
  simp only [a62, VW.down, Nat.reduceEqDiff, reduceCtorEq, Nat.reduceAdd, Nat.reduceLeDiff, Nat.reduceLT, Nat.reduceBEq, Nat.reduceSub, EE.down]
  refine condS (fun c1 => ?_) (fun c1 => ?_)
  · have h := (if_pos c1).symm.trans h
    simp only [VW.down, Nat.reduceEqDiff, reduceCtorEq, Nat.reduceAdd, Nat.reduceLeDiff, Nat.reduceLT, Nat.reduceBEq, Nat.reduceSub, EE.down]
    obtain rfl := Option.some.inj h
    exact eF []
  · have h := (if_neg c1).symm.trans h
    simp only [VW.down, Nat.reduceEqDiff, reduceCtorEq, Nat.reduceAdd, Nat.reduceLeDiff, Nat.reduceLT, Nat.reduceBEq, Nat.reduceSub, EE.down]
    refine condS (fun c2 => ?_) (fun c2 => ?_)
    · have h := (if_pos c2).symm.trans h
      simp only [VW.down, Nat.reduceEqDiff, reduceCtorEq, Nat.reduceAdd, Nat.reduceLeDiff, Nat.reduceLT, Nat.reduceBEq, Nat.reduceSub, EE.down]
      obtain rfl := Option.some.inj h
      exact eF []
    · have h := (if_neg c2).symm.trans h
      simp only [VW.down, Nat.reduceEqDiff, reduceCtorEq, Nat.reduceAdd, Nat.reduceLeDiff, Nat.reduceLT, Nat.reduceBEq, Nat.reduceSub, EE.down]
      obtain rfl := Option.some.inj h
      exact eF []

/- orchestrator/orchestratorref30.Delay -/
def F49_l4 (t2 : Int) (x2 : Int) : Nat → Int → Int → Option (Int)
  | 0, _, _ => none
  | k + 1, o4_0, o4_1 => (((if o4_1 < x2 then (if 0 < o4_0 then some (decide (o4_0 < t2)) else some false) else some false)).bind fun o5 => (if o5 = true then F49_l4 t2 x2 k ((IntKind.i64.wrap (2 * o4_0))) ((IntKind.i64.wrap (o4_1 + 1))) else some o4_0))
def F49 (x0 : Int) (x1 : Int) (x2 : Int) : Option (Int) := (F62 x0 1000000000000).bind fun t1 => (F62 x1 1000000000000).bind fun t2 => (if x2 < 1 then some 0 else ((F49_l4 t2 x2 1099511627776 t1 1).bind fun o4 => (if t2 < o4 then some t2 else some o4)))
def a49 : AFn := ⟨35, [(.tmp 6)],
 (.seq (.reg [⟨(some 6), none, .mv (kI 0), [], none⟩])
 (.seq (.reg [⟨(some 8), none, .mv (.t 0), [], none⟩,
   ⟨(some 9), none, .call 62 [(.t 8), (kI 1000000000000)], [], none⟩,
   ⟨(some 0), none, .mv (.t 9), [], none⟩])
 (.seq (.reg [⟨(some 10), none, .mv (.t 1), [], none⟩,
   ⟨(some 11), none, .call 62 [(.t 10), (kI 1000000000000)], [], none⟩,
   ⟨(some 1), none, .mv (.t 11), [], none⟩])
 (.seq (.seq (.reg [⟨(some 12), none, .mv (.t 2), [], none⟩,
   ⟨(some 13), none, .bin .lss (.t 12) (kI 1), [], none⟩])
 (.cond (.t 13)
 (.seq (.reg [⟨(some 6), none, .mv (kI 0), [], none⟩])
 .ret)
 .skip))
 (.seq (.seq (.reg [⟨(some 7), none, .mv (kI 1), [], none⟩])
 (.sem (.block 0 (.loop (.seq (.seq (.sem (.reg [⟨(some 14), none, .mv (.t 7), [], none⟩,
   ⟨(some 15), none, .mv (.t 2), [], none⟩,
   ⟨(some 16), none, .bin .lss (.t 14) (.t 15), [], none⟩,
   ⟨(some 17), none, .mv (.t 16), [], none⟩,
   ⟨(some 18), (some (17, true)), .mv (.t 0), [], none⟩,
   ⟨(some 19), (some (17, true)), .bin .gtr (.t 18) (kI 0), [], none⟩,
   ⟨(some 20), none, .pick (.t 17) (.t 19) (kB false), [], none⟩,
   ⟨(some 21), none, .mv (.t 20), [], none⟩,
   ⟨(some 22), (some (21, true)), .mv (.t 0), [], none⟩,
   ⟨(some 23), (some (21, true)), .mv (.t 1), [], none⟩,
   ⟨(some 24), (some (21, true)), .bin .lss (.t 22) (.t 23), [], none⟩,
   ⟨(some 25), none, .pick (.t 21) (.t 24) (kB false), [], none⟩]))
 (.cond (.t 25)
 .skip
 (.exit 0)))
 (.seq (.block 1 (.reg [⟨(some 28), none, .mv (.t 0), [], none⟩,
   ⟨(some 29), none, .bin .mul (kI 2) (.t 28), [], none⟩,
   ⟨(some 0), none, .mv (.t 29), [], none⟩]))
 (.reg [⟨(some 26), none, .mv (.t 7), [], none⟩,
   ⟨(some 27), none, .bin .add (.t 26) (kI 1), [], none⟩,
   ⟨(some 7), none, .mv (.t 27), [], none⟩])))))))
 (.seq (.seq (.reg [⟨(some 30), none, .mv (.t 0), [], none⟩,
   ⟨(some 31), none, .mv (.t 1), [], none⟩,
   ⟨(some 32), none, .bin .gtr (.t 30) (.t 31), [], none⟩])
 (.cond (.t 32)
 (.seq (.reg [⟨(some 33), none, .mv (.t 1), [], none⟩,
   ⟨(some 6), none, .mv (.t 33), [], none⟩])
 .ret)
 .skip))
 (.seq (.reg [⟨(some 34), none, .mv (.t 0), [], none⟩,
   ⟨(some 6), none, .mv (.t 34), [], none⟩])
 .ret)))))))⟩
theorem a49_ok : afn Try.prog 49 = some a49.er := by kernel_rfl
theorem F49_ok {x0 : Int} {x1 : Int} {x2 : Int} {r : Int} (h : F49 x0 x1 x2 = some r) : CallD Try.prog 49 [.c (.d (.v (.int .i64 x0))), .c (.d (.v (.int .i64 x1))), .c (.d (.v (.int .i64 x2)))] [] (tupV [.c (.d (.v (.int .i64 r)))]) [] := by
  refine callS a49_ok (by simp [a49]) ?_
  rw [F49] at h
  simp only [a49, VW.down, Nat.reduceEqDiff, reduceCtorEq, Nat.reduceAdd, Nat.reduceLeDiff, Nat.reduceLT, Nat.reduceBEq, Nat.reduceSub, EE.down]
  obtain ⟨t1, ht1, h⟩ := Option.bind_eq_some_iff.1 h
  refine callX_n [] (F62_ok ht1) ?_ ?_ ?_ ?_ ?_ ?_
  · first | rfl | simp [nrmA, nrmC, nrm, A1.ren, C.ren, rn, List.length_set]
  · simp [liveAll, A1.live, C.live]
  · rfl
  · decide
  · exact trivial
  simp only [VW.down, Nat.reduceEqDiff, reduceCtorEq, Nat.reduceAdd, Nat.reduceLeDiff, Nat.reduceLT, Nat.reduceBEq, Nat.reduceSub, EE.down]
  obtain ⟨t2, ht2, h⟩ := Option.bind_eq_some_iff.1 h
  refine callX_n [] (F62_ok ht2) ?_ ?_ ?_ ?_ ?_ ?_
  · first | rfl | simp [nrmA, nrmC, nrm, A1.ren, C.ren, rn, List.length_set]
  · simp [liveAll, A1.live, C.live]
  · rfl
  · decide
  · exact trivial
  simp only [VW.down, Nat.reduceEqDiff, reduceCtorEq, Nat.reduceAdd, Nat.reduceLeDiff, Nat.reduceLT, Nat.reduceBEq, Nat.reduceSub, EE.down]
  refine condS (fun c3 => ?_) (fun c3 => ?_)
  · have h := (if_pos c3).symm.trans h
    simp only [VW.down, Nat.reduceEqDiff, reduceCtorEq, Nat.reduceAdd, Nat.reduceLeDiff, Nat.reduceLT, Nat.reduceBEq, Nat.reduceSub, EE.down]
    obtain rfl := Option.some.inj h
    exact eF []
  · have h := (if_neg c3).symm.trans h
    simp only [VW.down, Nat.reduceEqDiff, reduceCtorEq, Nat.reduceAdd, Nat.reduceLeDiff, Nat.reduceLT, Nat.reduceBEq, Nat.reduceSub, EE.down]
    obtain ⟨o4, ho, h⟩ := Option.bind_eq_some_iff.1 h
    refine cutS (fun s => s = ⟨[(0, .one (.c (.d (.v (.int .i64 o4))))), (1, .one (.c (.d (.v (.int .i64 t2)))))], []⟩) ?_ ?_
    · have h := ho
      clear ho
      simp only [VW.down, Nat.reduceEqDiff, reduceCtorEq, Nat.reduceAdd, Nat.reduceLeDiff, Nat.reduceLT, Nat.reduceBEq, Nat.reduceSub, EE.down]
      refine bL (fun j s => ∃ (o4_0 : Int) (o4_1 : Int), s = ⟨[(0, .one (.c (.d (.v (.int .i64 o4_0))))), (1, .one (.c (.d (.v (.int .i64 t2))))), (2, .one (.c (.d (.v (.int .i64 x2))))), (7, .one (.c (.d (.v (.int .i64 o4_1)))))], []⟩ ∧ F49_l4 t2 x2 j o4_0 o4_1 = some o4) 1099511627776 [] ⟨t1, 1, rfl, h⟩ ?_
      rintro j _ ⟨o4_0, o4_1, rfl, h⟩
      cases j with
      | zero => cases (show (none : Option _) = some _ from h)
      | succ j =>
        rw [F49_l4] at h
        simp only [VW.down, Nat.reduceEqDiff, reduceCtorEq, Nat.reduceAdd, Nat.reduceLeDiff, Nat.reduceLT, Nat.reduceBEq, Nat.reduceSub, EE.down]
        obtain ⟨o5, ho, h⟩ := Option.bind_eq_some_iff.1 h
        refine cutS (fun s => s = ⟨[(0, .one (.c (.d (.v (.int .i64 o4_0))))), (1, .one (.c (.d (.v (.int .i64 t2))))), (2, .one (.c (.d (.v (.int .i64 x2))))), (7, .one (.c (.d (.v (.int .i64 o4_1))))), (25, .one (.c (.d (.v (.bool o5)))))], []⟩) ?_ ?_
        · have h := ho
          clear ho
          simp only [VW.down, Nat.reduceEqDiff, reduceCtorEq, Nat.reduceAdd, Nat.reduceLeDiff, Nat.reduceLT, Nat.reduceBEq, Nat.reduceSub, EE.down]
          refine guardS (fun g6 => ?_) (fun g6 => ?_)
          · have h := (if_pos g6).symm.trans h
            simp only [VW.down, Nat.reduceEqDiff, reduceCtorEq, Nat.reduceAdd, Nat.reduceLeDiff, Nat.reduceLT, Nat.reduceBEq, Nat.reduceSub, EE.down]
            refine guardS (fun g7 => ?_) (fun g7 => ?_)
            · have h := (if_pos g7).symm.trans h
              simp only [VW.down, Nat.reduceEqDiff, reduceCtorEq, Nat.reduceAdd, Nat.reduceLeDiff, Nat.reduceLT, Nat.reduceBEq, Nat.reduceSub, EE.down]
              obtain rfl := Option.some.inj h
              exact eM [] rfl
            · have h := (if_neg g7).symm.trans h
              simp only [VW.down, Nat.reduceEqDiff, reduceCtorEq, Nat.reduceAdd, Nat.reduceLeDiff, Nat.reduceLT, Nat.reduceBEq, Nat.reduceSub, EE.down]
              obtain rfl := Option.some.inj h
              exact eM [] rfl
          · have h := (if_neg g6).symm.trans h
            simp only [VW.down, Nat.reduceEqDiff, reduceCtorEq, Nat.reduceAdd, Nat.reduceLeDiff, Nat.reduceLT, Nat.reduceBEq, Nat.reduceSub, EE.down]
            obtain rfl := Option.some.inj h
            exact eM [] rfl
        · rintro _ rfl
          clear ho
          simp only [VW.down, Nat.reduceEqDiff, reduceCtorEq, Nat.reduceAdd, Nat.reduceLeDiff, Nat.reduceLT, Nat.reduceBEq, Nat.reduceSub, EE.down]
          refine condB (fun c8 => ?_) (fun c8 => ?_)
          · have h := (if_pos c8).symm.trans h
            simp only [VW.down, Nat.reduceEqDiff, reduceCtorEq, Nat.reduceAdd, Nat.reduceLeDiff, Nat.reduceLT, Nat.reduceBEq, Nat.reduceSub, EE.down]
            exact eL' j [] ⟨(IntKind.i64.wrap (2 * o4_0)), (IntKind.i64.wrap (o4_1 + 1)), rfl, h⟩ (Nat.lt_succ_self _)
          · have h := (if_neg c8).symm.trans h
            simp only [VW.down, Nat.reduceEqDiff, reduceCtorEq, Nat.reduceAdd, Nat.reduceLeDiff, Nat.reduceLT, Nat.reduceBEq, Nat.reduceSub, EE.down]
            obtain rfl := Option.some.inj h
            exact eM [] rfl
    · rintro _ rfl
      clear ho
      simp only [VW.down, Nat.reduceEqDiff, reduceCtorEq, Nat.reduceAdd, Nat.reduceLeDiff, Nat.reduceLT, Nat.reduceBEq, Nat.reduceSub, EE.down]
      refine condS (fun c9 => ?_) (fun c9 => ?_)
      · have h := (if_pos c9).symm.trans h
        simp only [VW.down, Nat.reduceEqDiff, reduceCtorEq, Nat.reduceAdd, Nat.reduceLeDiff, Nat.reduceLT, Nat.reduceBEq, Nat.reduceSub, EE.down]
        obtain rfl := Option.some.inj h
        exact eF []
      · have h := (if_neg c9).symm.trans h
        simp only [VW.down, Nat.reduceEqDiff, reduceCtorEq, Nat.reduceAdd, Nat.reduceLeDiff, Nat.reduceLT, Nat.reduceBEq, Nat.reduceSub, EE.down]
        obtain rfl := Option.some.inj h
        exact eF []

/- orchestrator/orchestratorref42.Retry -/
def F28_l12 (t1 : (List WorkItem) × (List WorkItem) × (List WorkItem) × (List WorkItem)) (t11 : Int) (x1 : ByteArray) : Nat → Int → Option (Int)
  | 0, _ => none
  | k + 1, o12_0 => (((if o12_0 < (t1.2.2.2.length : Int) then (rdI t1.2.2.2 o12_0).bind fun y15 => (if y15.At < t11 then some true else (if y15.At = t11 then some (Op.bytesLess y15.Key.toList x1.toList) else some false)) else some false)).bind fun o13 => (if o13 = true then F28_l12 t1 t11 x1 k ((IntKind.i64.wrap (o12_0 + 1))) else some o12_0))
def F28 (x0 : SchedQueue) (x1 : ByteArray) (x2 : Int) (x3 : Int) : Option ((List WorkItem) × ((List WorkItem)) × ((List WorkItem)) × (List WorkItem) × ((List WorkItem))) := (F45 x0 x1).bind fun t1 => (((F44 x0.Retries x1).bind fun t3 => (if 0 ≤ t3 then (rdI x0.Retries t3).bind fun y5 => some ((IntKind.i64.wrap (y5.At + 1))) else some 1)).bind fun o2 => (((if 1000000000000000 < o2 then some 1000000000000000 else some o2)).bind fun o6 => (F47 x0.Retries ((⟨x1, o6⟩ : WorkItem))).bind fun t8 => (F48 x3).bind fun t9 => (F49 1 60 o6).bind fun t10 => (F48 ((IntKind.i64.wrap (t9 + t10)))).bind fun t11 => ((F28_l12 t1 t11 x1 1099511627776 0).bind fun o12 => (F46 t1.2.2.2 o12 ((⟨x1, t11⟩ : WorkItem))).bind fun t19 => (F47 t1.1 ((⟨x1, x2⟩ : WorkItem))).bind fun t20 => some ((t20, t1.2.1, t1.2.2.1, t19, t8)))))
def a28 : AFn := ⟨99, [(.cell 8 (some 6))],
 (.seq (.reg [⟨(some 4), none, .box (.t 0), [], none⟩,
   ⟨(some 8), none, .zbox [.d (.v (.slice none 0 0)), .d (.v (.slice none 0 0)), .d (.v (.slice none 0 0)), .d (.v (.slice none 0 0)), .d (.v (.slice none 0 0)), .d (.v (.int .i64 0))], [], none⟩])
 (.seq (.reg [⟨(some 13), none, .load (some 6) (.t 4), [], none⟩,
   ⟨(some 14), none, .mv (.t 1), [], none⟩,
   ⟨(some 15), none, .call 45 [(.t 13), (.t 14)], [], none⟩,
   ⟨none, none, .store 6 (.t 4) (.t 15), [], none⟩])
 (.seq (.reg [⟨(some 9), none, .mv (kI 1), [], none⟩])
 (.seq (.sem (.seq (.reg [⟨(some 16), none, .fieldA 4 (.t 4), [], none⟩,
   ⟨(some 17), none, .load none (.t 16), [], none⟩,
   ⟨(some 18), none, .mv (.t 1), [], none⟩,
   ⟨(some 19), none, .call 44 [(.t 17), (.t 18)], [], none⟩,
   ⟨(some 10), none, .mv (.t 19), [], none⟩])
 (.seq (.reg [⟨(some 20), none, .mv (.t 10), [], none⟩,
   ⟨(some 21), none, .bin .geq (.t 20) (kI 0), [], none⟩])
 (.cond (.t 21)
 (.reg [⟨(some 22), none, .fieldA 4 (.t 4), [], none⟩,
   ⟨(some 23), none, .load none (.t 22), [], none⟩,
   ⟨(some 24), none, .mv (.t 10), [], none⟩,
   ⟨(some 25), none, .indexA 2 (.t 23) (.t 24), [], none⟩,
   ⟨(some 26), none, .fieldA 1 (.t 25), [], none⟩,
   ⟨(some 27), none, .load none (.t 26), [], none⟩,
   ⟨(some 28), none, .bin .add (.t 27) (kI 1), [], none⟩,
   ⟨(some 9), none, .mv (.t 28), [], none⟩])
 .skip))))
 (.seq (.sem (.seq (.reg [⟨(some 29), none, .mv (.t 9), [], none⟩,
   ⟨(some 30), none, .bin .gtr (.t 29) (kI 1000000000000000), [], none⟩])
 (.cond (.t 30)
 (.reg [⟨(some 9), none, .mv (kI 1000000000000000), [], none⟩])
 .skip)))
 (.seq (.reg [⟨(some 31), none, .fieldA 4 (.t 4), [], none⟩,
   ⟨(some 32), none, .load none (.t 31), [], none⟩,
   ⟨(some 33), none, .mv (.t 1), [], none⟩,
   ⟨(some 34), none, .mv (.t 9), [], none⟩,
   ⟨(some 35), none, .build [.d (.v (.string ⟨#[]⟩)), .d (.v (.int .i64 0))] [(0, 1, (.t 33)), (1, 1, (.t 34))], [], none⟩,
   ⟨(some 36), none, .call 47 [(.t 32), (.t 35)], [], none⟩,
   ⟨(some 37), none, .fieldA 4 (.t 4), [], none⟩,
   ⟨none, none, .store 1 (.t 37) (.t 36), [], none⟩])
 (.seq (.reg [⟨(some 38), none, .mv (.t 1), [], none⟩,
   ⟨(some 39), none, .mv (.t 3), [], none⟩,
   ⟨(some 40), none, .call 48 [(.t 39)], [], none⟩,
   ⟨(some 41), none, .mv (.t 9), [], none⟩,
   ⟨(some 42), none, .call 49 [(kI 1), (kI 60), (.t 41)], [], none⟩,
   ⟨(some 43), none, .bin .add (.t 40) (.t 42), [], none⟩,
   ⟨(some 44), none, .call 48 [(.t 43)], [], none⟩,
   ⟨(some 45), none, .build [.d (.v (.string ⟨#[]⟩)), .d (.v (.int .i64 0))] [(0, 1, (.t 38)), (1, 1, (.t 44))], [], none⟩,
   ⟨(some 11), none, .zbox [.d (.v (.string ⟨#[]⟩)), .d (.v (.int .i64 0))], [], none⟩,
   ⟨none, none, .store 2 (.t 11) (.t 45), [], none⟩])
 (.seq (.reg [⟨(some 12), none, .mv (kI 0), [], none⟩])
 (.seq (.sem (.block 0 (.loop (.seq (.seq (.sem (.regd [⟨(some 46), none, .mv (.t 12), [], none⟩,
   ⟨(some 47), none, .fieldA 3 (.t 4), [], none⟩,
   ⟨(some 48), none, .load none (.t 47), [1], none⟩,
   ⟨(some 49), none, .len (.t 48), [1, 2], none⟩,
   ⟨(some 50), none, .bin .lss (.t 46) (.t 49), [0, 1, 2, 3], none⟩,
   ⟨(some 51), none, .mv (.t 50), [0, 1, 2, 3, 4], none⟩,
   ⟨(some 52), (some (51, true)), .fieldA 3 (.t 4), [0, 1, 2, 3, 4, 5], none⟩,
   ⟨(some 53), (some (51, true)), .load none (.t 52), [0, 1, 2, 3, 4, 5, 6], none⟩,
   ⟨(some 54), (some (51, true)), .mv (.t 12), [0, 1, 2, 3, 4, 5], none⟩,
   ⟨(some 55), (some (51, true)), .indexA 2 (.t 53) (.t 54), [0, 1, 2, 3, 4, 5, 6, 7, 8], none⟩,
   ⟨(some 56), (some (51, true)), .fieldA 1 (.t 55), [0, 1, 2, 3, 4, 5, 6, 7, 8, 9], none⟩,
   ⟨(some 57), (some (51, true)), .load none (.t 56), [0, 1, 2, 3, 4, 5, 6, 7, 8, 9, 10], none⟩,
   ⟨(some 58), (some (51, true)), .fieldA 1 (.t 11), [0, 1, 2, 3, 4, 5], none⟩,
   ⟨(some 59), (some (51, true)), .load none (.t 58), [0, 1, 2, 3, 4, 5, 12], none⟩,
   ⟨(some 60), (some (51, true)), .bin .lss (.t 57) (.t 59), [0, 1, 2, 3, 4, 5, 6, 7, 8, 9, 10, 11, 12, 13], none⟩,
   ⟨(some 61), (some (51, true)), .mv (.t 60), [0, 1, 2, 3, 4, 5, 6, 7, 8, 9, 10, 11, 12, 13, 14], none⟩,
   ⟨(some 62), (some (61, false)), .fieldA 3 (.t 4), [0, 1, 2, 3, 4, 5, 6, 7, 8, 9, 10, 11, 12, 13, 14, 15], none⟩,
   ⟨(some 63), (some (61, false)), .load none (.t 62), [0, 1, 2, 3, 4, 5, 6, 7, 8, 9, 10, 11, 12, 13, 14, 15, 16], none⟩,
   ⟨(some 64), (some (61, false)), .mv (.t 12), [0, 1, 2, 3, 4, 5, 6, 7, 8, 9, 10, 11, 12, 13, 14, 15], none⟩,
   ⟨(some 65), (some (61, false)), .indexA 2 (.t 63) (.t 64), [0, 1, 2, 3, 4, 5, 6, 7, 8, 9, 10, 11, 12, 13, 14, 15, 16, 17, 18], none⟩,
   ⟨(some 66), (some (61, false)), .fieldA 1 (.t 65), [0, 1, 2, 3, 4, 5, 6, 7, 8, 9, 10, 11, 12, 13, 14, 15, 16, 17, 18, 19], none⟩,
   ⟨(some 67), (some (61, false)), .load none (.t 66), [0, 1, 2, 3, 4, 5, 6, 7, 8, 9, 10, 11, 12, 13, 14, 15, 16, 17, 18, 19, 20], none⟩,
   ⟨(some 68), (some (61, false)), .fieldA 1 (.t 11), [0, 1, 2, 3, 4, 5, 6, 7, 8, 9, 10, 11, 12, 13, 14, 15], none⟩,
   ⟨(some 69), (some (61, false)), .load none (.t 68), [0, 1, 2, 3, 4, 5, 6, 7, 8, 9, 10, 11, 12, 13, 14, 15, 22], none⟩,
   ⟨(some 70), (some (61, false)), .bin .eql (.t 67) (.t 69), [0, 1, 2, 3, 4, 5, 6, 7, 8, 9, 10, 11, 12, 13, 14, 15, 16, 17, 18, 19, 20, 21, 22, 23], none⟩,
   ⟨(some 71), (some (61, false)), .mv (.t 70), [0, 1, 2, 3, 4, 5, 6, 7, 8, 9, 10, 11, 12, 13, 14, 15, 16, 17, 18, 19, 20, 21, 22, 23, 24], none⟩,
   ⟨(some 72), (some (71, true)), .fieldA 3 (.t 4), [0, 1, 2, 3, 4, 5, 6, 7, 8, 9, 10, 11, 12, 13, 14, 15, 16, 17, 18, 19, 20, 21, 22, 23, 24, 25], none⟩,
   ⟨(some 73), (some (71, true)), .load none (.t 72), [0, 1, 2, 3, 4, 5, 6, 7, 8, 9, 10, 11, 12, 13, 14, 15, 16, 17, 18, 19, 20, 21, 22, 23, 24, 25, 26], none⟩,
   ⟨(some 74), (some (71, true)), .mv (.t 12), [0, 1, 2, 3, 4, 5, 6, 7, 8, 9, 10, 11, 12, 13, 14, 15, 16, 17, 18, 19, 20, 21, 22, 23, 24, 25], none⟩,
   ⟨(some 75), (some (71, true)), .indexA 2 (.t 73) (.t 74), [0, 1, 2, 3, 4, 5, 6, 7, 8, 9, 10, 11, 12, 13, 14, 15, 16, 17, 18, 19, 20, 21, 22, 23, 24, 25, 26, 27, 28], none⟩,
   ⟨(some 76), (some (71, true)), .fieldA 0 (.t 75), [0, 1, 2, 3, 4, 5, 6, 7, 8, 9, 10, 11, 12, 13, 14, 15, 16, 17, 18, 19, 20, 21, 22, 23, 24, 25, 26, 27, 28, 29], none⟩,
   ⟨(some 77), (some (71, true)), .load none (.t 76), [0, 1, 2, 3, 4, 5, 6, 7, 8, 9, 10, 11, 12, 13, 14, 15, 16, 17, 18, 19, 20, 21, 22, 23, 24, 25, 26, 27, 28, 29, 30], none⟩,
   ⟨(some 78), (some (71, true)), .mv (.t 1), [0, 1, 2, 3, 4, 5, 6, 7, 8, 9, 10, 11, 12, 13, 14, 15, 16, 17, 18, 19, 20, 21, 22, 23, 24, 25], none⟩,
   ⟨(some 79), (some (71, true)), .bin .lss (.t 77) (.t 78), [0, 1, 2, 3, 4, 5, 6, 7, 8, 9, 10, 11, 12, 13, 14, 15, 16, 17, 18, 19, 20, 21, 22, 23, 24, 25, 26, 27, 28, 29, 30, 31, 32], none⟩,
   ⟨(some 80), (some (61, false)), .pick (.t 71) (.t 79) (kB false), [0, 1, 2, 3, 4, 5, 6, 7, 8, 9, 10, 11, 12, 13, 14, 15, 16, 17, 18, 19, 20, 21, 22, 23, 24, 25, 26, 27, 28, 29, 30, 31, 32, 33], (some [])⟩,
   ⟨(some 81), (some (51, true)), .pick (.t 61) (kB true) (.t 80), [0, 1, 2, 3, 4, 5, 6, 7, 8, 9, 10, 11, 12, 13, 14, 15, 16, 17, 18, 19, 20, 21, 22, 23, 24, 25, 26, 27, 28, 29, 30, 31, 32, 33, 34], (some [])⟩,
   ⟨(some 82), none, .pick (.t 51) (.t 81) (kB false), [0, 1, 2, 3, 4, 5, 6, 7, 8, 9, 10, 11, 12, 13, 14, 15, 16, 17, 18, 19, 20, 21, 22, 23, 24, 25, 26, 27, 28, 29, 30, 31, 32, 33, 34, 35], (some [])⟩]))
 (.cond (.t 82)
 .skip
 (.exit 0)))
 (.block 1 (.reg [⟨(some 83), none, .mv (.t 12), [], none⟩,
   ⟨(some 84), none, .bin .add (.t 83) (kI 1), [], none⟩,
   ⟨(some 12), none, .mv (.t 84), [], none⟩]))))))
 (.seq (.reg [⟨(some 85), none, .fieldA 3 (.t 4), [], none⟩,
   ⟨(some 86), none, .load none (.t 85), [], none⟩,
   ⟨(some 87), none, .mv (.t 12), [], none⟩,
   ⟨(some 88), none, .load (some 2) (.t 11), [], none⟩,
   ⟨(some 89), none, .call 46 [(.t 86), (.t 87), (.t 88)], [], none⟩,
   ⟨(some 90), none, .fieldA 3 (.t 4), [], none⟩,
   ⟨none, none, .store 1 (.t 90) (.t 89), [], none⟩])
 (.seq (.reg [⟨(some 91), none, .fieldA 0 (.t 4), [], none⟩,
   ⟨(some 92), none, .load none (.t 91), [], none⟩,
   ⟨(some 93), none, .mv (.t 1), [], none⟩,
   ⟨(some 94), none, .mv (.t 2), [], none⟩,
   ⟨(some 95), none, .build [.d (.v (.string ⟨#[]⟩)), .d (.v (.int .i64 0))] [(0, 1, (.t 93)), (1, 1, (.t 94))], [], none⟩,
   ⟨(some 96), none, .call 47 [(.t 92), (.t 95)], [], none⟩,
   ⟨(some 97), none, .fieldA 0 (.t 4), [], none⟩,
   ⟨none, none, .store 1 (.t 97) (.t 96), [], none⟩])
 (.seq (.reg [⟨(some 98), none, .load (some 6) (.t 4), [], none⟩,
   ⟨none, none, .store 6 (.t 8) (.t 98), [], (some [4])⟩])
 .ret))))))))))))⟩
theorem a28_ok : afn Try.prog 28 = some a28.er := by kernel_rfl
theorem F28_ok {x0 : SchedQueue} {x1 : ByteArray} {x2 : Int} {x3 : Int} {r : (List WorkItem) × ((List WorkItem)) × ((List WorkItem)) × (List WorkItem) × ((List WorkItem))} (h : F28 x0 x1 x2 x3 = some r) : CallD Try.prog 28 [.agg [.d (.sl (x0.Waiting.map eWorkItem)), .d (.sl (x0.Active.map eWorkItem)), .d (.sl (x0.Stuck.map eWorkItem)), .d (.sl (x0.Backoff.map eWorkItem)), .d (.sl (x0.Retries.map eWorkItem)), .d (.v (.int .i64 x0.Cycle))], .c (.d (.v (.string x1))), .c (.d (.v (.int .i64 x2))), .c (.d (.v (.int .i64 x3)))] [] (tupV [.agg [.own 0 0 0 (r.1.length) none, .d (.sl (r.2.1.map eWorkItem)), .d (.sl (r.2.2.1.map eWorkItem)), .own 1 0 0 (r.2.2.2.1.length) none, .d (.sl (r.2.2.2.2.map eWorkItem)), .d (.v (.int .i64 x0.Cycle))]]) [some (.arr 0 2 (r.1.map eWorkItem)), some (.arr 0 2 (r.2.2.2.1.map eWorkItem))] := by
  refine callS a28_ok (by simp [a28]) ?_
  rw [F28] at h
  simp only [a28, VW.down, Nat.reduceEqDiff, reduceCtorEq, Nat.reduceAdd, Nat.reduceLeDiff, Nat.reduceLT, Nat.reduceBEq, Nat.reduceSub, EE.down]
  obtain ⟨t1, ht1, h⟩ := Option.bind_eq_some_iff.1 h
  refine callX_n [] (F45_ok ht1) ?_ ?_ ?_ ?_ ?_ ?_
  · first | rfl | simp [nrmA, nrmC, nrm, A1.ren, C.ren, rn, List.length_set]
  · simp [liveAll, A1.live, C.live]
  · rfl
  · decide
  · exact trivial
  simp only [VW.down, Nat.reduceEqDiff, reduceCtorEq, Nat.reduceAdd, Nat.reduceLeDiff, Nat.reduceLT, Nat.reduceBEq, Nat.reduceSub, EE.down]
  obtain ⟨o2, ho, h⟩ := Option.bind_eq_some_iff.1 h
  refine cutS (fun s => s = ⟨[(1, .one (.c (.d (.v (.string x1))))), (2, .one (.c (.d (.v (.int .i64 x2))))), (3, .one (.c (.d (.v (.int .i64 x3))))), (4, .one (.c (.pt 0 0))), (8, .one (.c (.pt 1 0))), (9, .one (.c (.d (.v (.int .i64 o2)))))], [some (.box [.d (.sl (t1.1.map eWorkItem)), .d (.sl (t1.2.1.map eWorkItem)), .d (.sl (t1.2.2.1.map eWorkItem)), .d (.sl (t1.2.2.2.map eWorkItem)), .d (.sl (x0.Retries.map eWorkItem)), .d (.v (.int .i64 x0.Cycle))]), some (.box [.d (.v (.slice none 0 0)), .d (.v (.slice none 0 0)), .d (.v (.slice none 0 0)), .d (.v (.slice none 0 0)), .d (.v (.slice none 0 0)), .d (.v (.int .i64 0))])]⟩) ?_ ?_
  · have h := ho
    clear ho
    simp only [VW.down, Nat.reduceEqDiff, reduceCtorEq, Nat.reduceAdd, Nat.reduceLeDiff, Nat.reduceLT, Nat.reduceBEq, Nat.reduceSub, EE.down]
    obtain ⟨t3, ht3, h⟩ := Option.bind_eq_some_iff.1 h
    refine callX_n [] (F44_ok ht3) ?_ ?_ ?_ ?_ ?_ ?_
    · first | rfl | simp [nrmA, nrmC, nrm, A1.ren, C.ren, rn, List.length_set]
    · simp [liveAll, A1.live, C.live]
    · rfl
    · decide
    · exact trivial
    simp only [VW.down, Nat.reduceEqDiff, reduceCtorEq, Nat.reduceAdd, Nat.reduceLeDiff, Nat.reduceLT, Nat.reduceBEq, Nat.reduceSub, EE.down]
    refine condS (fun c4 => ?_) (fun c4 => ?_)
    · have h := (if_pos c4).symm.trans h
      simp only [VW.down, Nat.reduceEqDiff, reduceCtorEq, Nat.reduceAdd, Nat.reduceLeDiff, Nat.reduceLT, Nat.reduceBEq, Nat.reduceSub, EE.down]
      obtain ⟨y5, hy5, h⟩ := Option.bind_eq_some_iff.1 h
      refine t_idxF (enc := eWorkItem) (xs := x0.Retries) rfl rfl hy5 rfl ?_
      simp only [VW.down, Nat.reduceEqDiff, reduceCtorEq, Nat.reduceAdd, Nat.reduceLeDiff, Nat.reduceLT, Nat.reduceBEq, Nat.reduceSub, EE.down]
      obtain rfl := Option.some.inj h
      exact eM [some 0, some 1] rfl
    · have h := (if_neg c4).symm.trans h
      simp only [VW.down, Nat.reduceEqDiff, reduceCtorEq, Nat.reduceAdd, Nat.reduceLeDiff, Nat.reduceLT, Nat.reduceBEq, Nat.reduceSub, EE.down]
      obtain rfl := Option.some.inj h
      exact eM [some 0, some 1] rfl
  · rintro _ rfl
    clear ho
    simp only [VW.down, Nat.reduceEqDiff, reduceCtorEq, Nat.reduceAdd, Nat.reduceLeDiff, Nat.reduceLT, Nat.reduceBEq, Nat.reduceSub, EE.down]
    obtain ⟨o6, ho, h⟩ := Option.bind_eq_some_iff.1 h
    refine cutS (fun s => s = ⟨[(1, .one (.c (.d (.v (.string x1))))), (2, .one (.c (.d (.v (.int .i64 x2))))), (3, .one (.c (.d (.v (.int .i64 x3))))), (4, .one (.c (.pt 0 0))), (8, .one (.c (.pt 1 0))), (9, .one (.c (.d (.v (.int .i64 o6)))))], [some (.box [.d (.sl (t1.1.map eWorkItem)), .d (.sl (t1.2.1.map eWorkItem)), .d (.sl (t1.2.2.1.map eWorkItem)), .d (.sl (t1.2.2.2.map eWorkItem)), .d (.sl (x0.Retries.map eWorkItem)), .d (.v (.int .i64 x0.Cycle))]), some (.box [.d (.v (.slice none 0 0)), .d (.v (.slice none 0 0)), .d (.v (.slice none 0 0)), .d (.v (.slice none 0 0)), .d (.v (.slice none 0 0)), .d (.v (.int .i64 0))])]⟩) ?_ ?_
    · have h := ho
      clear ho
      simp only [VW.down, Nat.reduceEqDiff, reduceCtorEq, Nat.reduceAdd, Nat.reduceLeDiff, Nat.reduceLT, Nat.reduceBEq, Nat.reduceSub, EE.down]
      refine condS (fun c7 => ?_) (fun c7 => ?_)
      · have h := (if_pos c7).symm.trans h
        simp only [VW.down, Nat.reduceEqDiff, reduceCtorEq, Nat.reduceAdd, Nat.reduceLeDiff, Nat.reduceLT, Nat.reduceBEq, Nat.reduceSub, EE.down]
        obtain rfl := Option.some.inj h
        exact eM [some 0, some 1] rfl
      · have h := (if_neg c7).symm.trans h
        simp only [VW.down, Nat.reduceEqDiff, reduceCtorEq, Nat.reduceAdd, Nat.reduceLeDiff, Nat.reduceLT, Nat.reduceBEq, Nat.reduceSub, EE.down]
        obtain rfl := Option.some.inj h
        exact eM [some 0, some 1] rfl
    · rintro _ rfl
      clear ho
      simp only [VW.down, Nat.reduceEqDiff, reduceCtorEq, Nat.reduceAdd, Nat.reduceLeDiff, Nat.reduceLT, Nat.reduceBEq, Nat.reduceSub, EE.down]
      obtain ⟨t8, ht8, h⟩ := Option.bind_eq_some_iff.1 h
      refine callX_n [] (F47_ok ht8) ?_ ?_ ?_ ?_ ?_ ?_
      · first | rfl | simp [nrmA, nrmC, nrm, A1.ren, C.ren, rn, List.length_set]
      · simp [liveAll, A1.live, C.live]
      · rfl
      · decide
      · exact trivial
      simp only [VW.down, Nat.reduceEqDiff, reduceCtorEq, Nat.reduceAdd, Nat.reduceLeDiff, Nat.reduceLT, Nat.reduceBEq, Nat.reduceSub, EE.down]
      obtain ⟨t9, ht9, h⟩ := Option.bind_eq_some_iff.1 h
      refine callX_n [] (F48_ok ht9) ?_ ?_ ?_ ?_ ?_ ?_
      · first | rfl | simp [nrmA, nrmC, nrm, A1.ren, C.ren, rn, List.length_set]
      · simp [liveAll, A1.live, C.live]
      · rfl
      · decide
      · exact trivial
      simp only [VW.down, Nat.reduceEqDiff, reduceCtorEq, Nat.reduceAdd, Nat.reduceLeDiff, Nat.reduceLT, Nat.reduceBEq, Nat.reduceSub, EE.down]
      obtain ⟨t10, ht10, h⟩ := Option.bind_eq_some_iff.1 h
      refine callX_n [] (F49_ok ht10) ?_ ?_ ?_ ?_ ?_ ?_
      · first | rfl | simp [nrmA, nrmC, nrm, A1.ren, C.ren, rn, List.length_set]
      · simp [liveAll, A1.live, C.live]
      · rfl
      · decide
      · exact trivial
      simp only [VW.down, Nat.reduceEqDiff, reduceCtorEq, Nat.reduceAdd, Nat.reduceLeDiff, Nat.reduceLT, Nat.reduceBEq, Nat.reduceSub, EE.down]
      obtain ⟨t11, ht11, h⟩ := Option.bind_eq_some_iff.1 h
      refine callX_n [] (F48_ok ht11) ?_ ?_ ?_ ?_ ?_ ?_
      · first | rfl | simp [nrmA, nrmC, nrm, A1.ren, C.ren, rn, List.length_set]
      · simp [liveAll, A1.live, C.live]
      · rfl
      · decide
      · exact trivial
      simp only [VW.down, Nat.reduceEqDiff, reduceCtorEq, Nat.reduceAdd, Nat.reduceLeDiff, Nat.reduceLT, Nat.reduceBEq, Nat.reduceSub, EE.down]
      obtain ⟨o12, ho, h⟩ := Option.bind_eq_some_iff.1 h
      refine cutS (fun s => s = ⟨[(1, .one (.c (.d (.v (.string x1))))), (2, .one (.c (.d (.v (.int .i64 x2))))), (4, .one (.c (.pt 0 0))), (8, .one (.c (.pt 1 0))), (11, .one (.c (.pt 2 0))), (12, .one (.c (.d (.v (.int .i64 o12)))))], [some (.box [.d (.sl (t1.1.map eWorkItem)), .d (.sl (t1.2.1.map eWorkItem)), .d (.sl (t1.2.2.1.map eWorkItem)), .d (.sl (t1.2.2.2.map eWorkItem)), .d (.sl (t8.map eWorkItem)), .d (.v (.int .i64 x0.Cycle))]), some (.box [.d (.v (.slice none 0 0)), .d (.v (.slice none 0 0)), .d (.v (.slice none 0 0)), .d (.v (.slice none 0 0)), .d (.v (.slice none 0 0)), .d (.v (.int .i64 0))]), some (.box [.d (.v (.string x1)), .d (.v (.int .i64 t11))])]⟩) ?_ ?_
      · have h := ho
        clear ho
        simp only [VW.down, Nat.reduceEqDiff, reduceCtorEq, Nat.reduceAdd, Nat.reduceLeDiff, Nat.reduceLT, Nat.reduceBEq, Nat.reduceSub, EE.down]
        refine bL (fun j s => ∃ (o12_0 : Int), s = ⟨[(1, .one (.c (.d (.v (.string x1))))), (2, .one (.c (.d (.v (.int .i64 x2))))), (4, .one (.c (.pt 0 0))), (8, .one (.c (.pt 1 0))), (11, .one (.c (.pt 2 0))), (12, .one (.c (.d (.v (.int .i64 o12_0)))))], [some (.box [.d (.sl (t1.1.map eWorkItem)), .d (.sl (t1.2.1.map eWorkItem)), .d (.sl (t1.2.2.1.map eWorkItem)), .d (.sl (t1.2.2.2.map eWorkItem)), .d (.sl (t8.map eWorkItem)), .d (.v (.int .i64 x0.Cycle))]), some (.box [.d (.v (.slice none 0 0)), .d (.v (.slice none 0 0)), .d (.v (.slice none 0 0)), .d (.v (.slice none 0 0)), .d (.v (.slice none 0 0)), .d (.v (.int .i64 0))]), some (.box [.d (.v (.string x1)), .d (.v (.int .i64 t11))])]⟩ ∧ F28_l12 t1 t11 x1 j o12_0 = some o12) 1099511627776 [some 0, some 1, some 3] ⟨0, rfl, h⟩ ?_
        rintro j _ ⟨o12_0, rfl, h⟩
        cases j with
        | zero => cases (show (none : Option _) = some _ from h)
        | succ j =>
          rw [F28_l12] at h
          simp only [VW.down, Nat.reduceEqDiff, reduceCtorEq, Nat.reduceAdd, Nat.reduceLeDiff, Nat.reduceLT, Nat.reduceBEq, Nat.reduceSub, EE.down]
          obtain ⟨o13, ho, h⟩ := Option.bind_eq_some_iff.1 h
          refine cutS (fun s => s = ⟨[(1, .one (.c (.d (.v (.string x1))))), (2, .one (.c (.d (.v (.int .i64 x2))))), (4, .one (.c (.pt 0 0))), (8, .one (.c (.pt 1 0))), (11, .one (.c (.pt 2 0))), (12, .one (.c (.d (.v (.int .i64 o12_0))))), (82, .one (.c (.d (.v (.bool o13)))))], [some (.box [.d (.sl (t1.1.map eWorkItem)), .d (.sl (t1.2.1.map eWorkItem)), .d (.sl (t1.2.2.1.map eWorkItem)), .d (.sl (t1.2.2.2.map eWorkItem)), .d (.sl (t8.map eWorkItem)), .d (.v (.int .i64 x0.Cycle))]), some (.box [.d (.v (.slice none 0 0)), .d (.v (.slice none 0 0)), .d (.v (.slice none 0 0)), .d (.v (.slice none 0 0)), .d (.v (.slice none 0 0)), .d (.v (.int .i64 0))]), some (.box [.d (.v (.string x1)), .d (.v (.int .i64 t11))])]⟩) ?_ ?_
          · have h := ho
            clear ho
            simp only [VW.down, Nat.reduceEqDiff, reduceCtorEq, Nat.reduceAdd, Nat.reduceLeDiff, Nat.reduceLT, Nat.reduceBEq, Nat.reduceSub, EE.down]
            refine guardD (fun g14 => ?_) (fun g14 => ?_)
            · have h := (if_pos g14).symm.trans h
              simp only [VW.down, Nat.reduceEqDiff, reduceCtorEq, Nat.reduceAdd, Nat.reduceLeDiff, Nat.reduceLT, Nat.reduceBEq, Nat.reduceSub, EE.down]
              obtain ⟨y15, hy15, h⟩ := Option.bind_eq_some_iff.1 h
              refine t_idxF (enc := eWorkItem) (xs := t1.2.2.2) rfl rfl hy15 rfl ?_
              simp only [VW.down, Nat.reduceEqDiff, reduceCtorEq, Nat.reduceAdd, Nat.reduceLeDiff, Nat.reduceLT, Nat.reduceBEq, Nat.reduceSub, EE.down]
              refine guardD (fun g16 => ?_) (fun g16 => ?_)
              · have h := (if_pos g16).symm.trans h
                simp only [VW.down, Nat.reduceEqDiff, reduceCtorEq, Nat.reduceAdd, Nat.reduceLeDiff, Nat.reduceLT, Nat.reduceBEq, Nat.reduceSub, EE.down]
                obtain rfl := Option.some.inj h
                exact eM [some 0, some 1, some 2] rfl
              · have h := (if_neg g16).symm.trans h
                simp only [VW.down, Nat.reduceEqDiff, reduceCtorEq, Nat.reduceAdd, Nat.reduceLeDiff, Nat.reduceLT, Nat.reduceBEq, Nat.reduceSub, EE.down]
                refine t_idxF (enc := eWorkItem) (xs := t1.2.2.2) rfl rfl hy15 rfl ?_
                simp only [VW.down, Nat.reduceEqDiff, reduceCtorEq, Nat.reduceAdd, Nat.reduceLeDiff, Nat.reduceLT, Nat.reduceBEq, Nat.reduceSub, EE.down]
                refine guardD (fun g17 => ?_) (fun g17 => ?_)
                · have h := (if_pos g17).symm.trans h
                  simp only [VW.down, Nat.reduceEqDiff, reduceCtorEq, Nat.reduceAdd, Nat.reduceLeDiff, Nat.reduceLT, Nat.reduceBEq, Nat.reduceSub, EE.down]
                  refine t_idxF (enc := eWorkItem) (xs := t1.2.2.2) rfl rfl hy15 rfl ?_
                  simp only [VW.down, Nat.reduceEqDiff, reduceCtorEq, Nat.reduceAdd, Nat.reduceLeDiff, Nat.reduceLT, Nat.reduceBEq, Nat.reduceSub, EE.down]
                  obtain rfl := Option.some.inj h
                  exact eM [some 0, some 1, some 2] rfl
                · have h := (if_neg g17).symm.trans h
                  simp only [VW.down, Nat.reduceEqDiff, reduceCtorEq, Nat.reduceAdd, Nat.reduceLeDiff, Nat.reduceLT, Nat.reduceBEq, Nat.reduceSub, EE.down]
                  obtain rfl := Option.some.inj h
                  exact eM [some 0, some 1, some 2] rfl
            · have h := (if_neg g14).symm.trans h
              simp only [VW.down, Nat.reduceEqDiff, reduceCtorEq, Nat.reduceAdd, Nat.reduceLeDiff, Nat.reduceLT, Nat.reduceBEq, Nat.reduceSub, EE.down]
              obtain rfl := Option.some.inj h
              exact eM [some 0, some 1, some 2] rfl
          · rintro _ rfl
            clear ho
            simp only [VW.down, Nat.reduceEqDiff, reduceCtorEq, Nat.reduceAdd, Nat.reduceLeDiff, Nat.reduceLT, Nat.reduceBEq, Nat.reduceSub, EE.down]
            refine condB (fun c18 => ?_) (fun c18 => ?_)
            · have h := (if_pos c18).symm.trans h
              simp only [VW.down, Nat.reduceEqDiff, reduceCtorEq, Nat.reduceAdd, Nat.reduceLeDiff, Nat.reduceLT, Nat.reduceBEq, Nat.reduceSub, EE.down]
              exact eL' j [some 0, some 1, some 2] ⟨(IntKind.i64.wrap (o12_0 + 1)), rfl, h⟩ (Nat.lt_succ_self _)
            · have h := (if_neg c18).symm.trans h
              simp only [VW.down, Nat.reduceEqDiff, reduceCtorEq, Nat.reduceAdd, Nat.reduceLeDiff, Nat.reduceLT, Nat.reduceBEq, Nat.reduceSub, EE.down]
              obtain rfl := Option.some.inj h
              exact eM [some 0, some 1, some 2] rfl
      · rintro _ rfl
        clear ho
        simp only [VW.down, Nat.reduceEqDiff, reduceCtorEq, Nat.reduceAdd, Nat.reduceLeDiff, Nat.reduceLT, Nat.reduceBEq, Nat.reduceSub, EE.down]
        obtain ⟨t19, ht19, h⟩ := Option.bind_eq_some_iff.1 h
        refine callX_n [] (F46_ok ht19) ?_ ?_ ?_ ?_ ?_ ?_
        · first | rfl | simp [nrmA, nrmC, nrm, A1.ren, C.ren, rn, List.length_set]
        · simp [liveAll, A1.live, C.live]
        · rfl
        · decide
        · exact trivial
        simp only [VW.down, Nat.reduceEqDiff, reduceCtorEq, Nat.reduceAdd, Nat.reduceLeDiff, Nat.reduceLT, Nat.reduceBEq, Nat.reduceSub, EE.down]
        obtain ⟨t20, ht20, h⟩ := Option.bind_eq_some_iff.1 h
        refine callX_n [] (F47_ok ht20) ?_ ?_ ?_ ?_ ?_ ?_
        · first | rfl | simp [nrmA, nrmC, nrm, A1.ren, C.ren, rn, List.length_set]
        · simp [liveAll, A1.live, C.live]
        · rfl
        · decide
        · exact trivial
        simp only [VW.down, Nat.reduceEqDiff, reduceCtorEq, Nat.reduceAdd, Nat.reduceLeDiff, Nat.reduceLT, Nat.reduceBEq, Nat.reduceSub, EE.down]
        obtain rfl := Option.some.inj h
        exact eF [some 4, some 3]

/- orchestrator/orchestratorref42.Wake -/
def F29_l1  : List WorkItem → Nat → SchedQueue → Option (SchedQueue)
  | [], o1_1, o1_0 => some ((⟨(o1_0).Waiting, (o1_0).Active, (o1_0).Stuck, (o1_0).Backoff, (o1_0).Retries, (o1_0).Cycle⟩ : SchedQueue))
  | xo1 :: xs, o1_1, o1_0 => (F25 ((⟨(o1_0).Waiting, (o1_0).Active, (o1_0).Stuck, (o1_0).Backoff, (o1_0).Retries, (o1_0).Cycle⟩ : SchedQueue)) xo1.Key xo1.At).bind fun t3 => F29_l1  xs (o1_1 + 1) ((⟨t3.1, t3.2.1, t3.2.2.1, t3.2.2.2, ((⟨(o1_0).Waiting, (o1_0).Active, (o1_0).Stuck, (o1_0).Backoff, (o1_0).Retries, (o1_0).Cycle⟩ : SchedQueue)).Retries, ((⟨(o1_0).Waiting, (o1_0).Active, (o1_0).Stuck, (o1_0).Backoff, (o1_0).Retries, (o1_0).Cycle⟩ : SchedQueue)).Cycle⟩ : SchedQueue))
def F29 (x0 : SchedQueue) : Option (SchedQueue) := (((ck (0 ≤ x0.Stuck.length ∧ x0.Stuck.length ≤ 4294967290)).bind fun u4 => F29_l1 x0.Stuck 0 x0).bind fun o1 => some ((⟨(o1).Waiting, (o1).Active, (o1).Stuck, (o1).Backoff, (o1).Retries, (o1).Cycle⟩ : SchedQueue)))
def a29 : AFn := ⟨26, [(.cell 2 (some 6))],
 (.seq (.reg [⟨(some 1), none, .box (.t 0), [], none⟩,
   ⟨(some 2), none, .zbox [.d (.v (.slice none 0 0)), .d (.v (.slice none 0 0)), .d (.v (.slice none 0 0)), .d (.v (.slice none 0 0)), .d (.v (.slice none 0 0)), .d (.v (.int .i64 0))], [], none⟩])
 (.seq (.reg [⟨(some 5), none, .fieldA 2 (.t 1), [], none⟩,
   ⟨(some 6), none, .load none (.t 5), [], none⟩,
   ⟨(some 3), none, .mv (.t 6), [], none⟩])
 (.seq (.seq (.reg [⟨(some 4), none, .mv (kI 0), [], none⟩])
 (.sem (.block 0 (.loop (.seq (.seq (.reg [⟨(some 7), none, .mv (.t 4), [], none⟩,
   ⟨(some 8), none, .mv (.t 3), [], none⟩,
   ⟨(some 9), none, .len (.t 8), [], none⟩,
   ⟨(some 10), none, .bin .lss (.t 7) (.t 9), [], none⟩])
 (.cond (.t 10)
 .skip
 (.exit 0)))
 (.seq (.block 1 (.regd [⟨(some 13), none, .load (some 6) (.t 1), [], none⟩,
   ⟨(some 14), none, .mv (.t 3), [], none⟩,
   ⟨(some 15), none, .mv (.t 4), [], none⟩,
   ⟨(some 16), none, .indexA 2 (.t 14) (.t 15), [1, 2], none⟩,
   ⟨(some 17), none, .fieldA 0 (.t 16), [1, 2, 3], none⟩,
   ⟨(some 18), none, .load none (.t 17), [1, 2, 3, 4], none⟩,
   ⟨(some 19), none, .mv (.t 3), [], none⟩,
   ⟨(some 20), none, .mv (.t 4), [], none⟩,
   ⟨(some 21), none, .indexA 2 (.t 19) (.t 20), [6, 7], none⟩,
   ⟨(some 22), none, .fieldA 1 (.t 21), [6, 7, 8], none⟩,
   ⟨(some 23), none, .load none (.t 22), [6, 7, 8, 9], none⟩,
   ⟨(some 24), none, .call 25 [(.t 13), (.t 18), (.t 23)], [0, 1, 2, 3, 4, 5, 6, 7, 8, 9, 10], (some [])⟩,
   ⟨none, none, .store 6 (.t 1) (.t 24), [0, 1, 2, 3, 4, 5, 6, 7, 8, 9, 10, 11], (some [])⟩]))
 (.reg [⟨(some 11), none, .mv (.t 4), [], none⟩,
   ⟨(some 12), none, .bin .add (.t 11) (kI 1), [], none⟩,
   ⟨(some 4), none, .mv (.t 12), [], none⟩])))))))
 (.seq (.reg [⟨(some 25), none, .load (some 6) (.t 1), [], none⟩,
   ⟨none, none, .store 6 (.t 2) (.t 25), [], (some [1])⟩])
 .ret))))⟩
theorem a29_ok : afn Try.prog 29 = some a29.er := by kernel_rfl
theorem F29_ok {x0 : SchedQueue} {r : SchedQueue} (h : F29 x0 = some r) : CallD Try.prog 29 [.agg [.d (.sl (x0.Waiting.map eWorkItem)), .d (.sl (x0.Active.map eWorkItem)), .d (.sl (x0.Stuck.map eWorkItem)), .d (.sl (x0.Backoff.map eWorkItem)), .d (.sl (x0.Retries.map eWorkItem)), .d (.v (.int .i64 x0.Cycle))]] [] (tupV [.agg [.d (.sl (((r).Waiting).map eWorkItem)), .d (.sl (((r).Active).map eWorkItem)), .d (.sl (((r).Stuck).map eWorkItem)), .d (.sl (((r).Backoff).map eWorkItem)), .d (.sl (((r).Retries).map eWorkItem)), .d (.v (.int .i64 ((r).Cycle)))]]) [] := by
  refine callS a29_ok (by simp [a29]) ?_
  rw [F29] at h
  simp only [a29, VW.down, Nat.reduceEqDiff, reduceCtorEq, Nat.reduceAdd, Nat.reduceLeDiff, Nat.reduceLT, Nat.reduceBEq, Nat.reduceSub, EE.down]
  obtain ⟨o1, ho, h⟩ := Option.bind_eq_some_iff.1 h
  refine cutS (fun s => s = ⟨[(1, .one (.c (.pt 0 0))), (2, .one (.c (.pt 1 0)))], [some (.box [.d (.sl (((o1).Waiting).map eWorkItem)), .d (.sl (((o1).Active).map eWorkItem)), .d (.sl (((o1).Stuck).map eWorkItem)), .d (.sl (((o1).Backoff).map eWorkItem)), .d (.sl (((o1).Retries).map eWorkItem)), .d (.v (.int .i64 ((o1).Cycle)))]), some (.box [.d (.v (.slice none 0 0)), .d (.v (.slice none 0 0)), .d (.v (.slice none 0 0)), .d (.v (.slice none 0 0)), .d (.v (.slice none 0 0)), .d (.v (.int .i64 0))])]⟩) ?_ ?_
  · have h := ho
    clear ho
    obtain ⟨_, hk, h⟩ := Option.bind_eq_some_iff.1 h
    have hk := ck_some hk
    simp only [VW.down, Nat.reduceEqDiff, reduceCtorEq, Nat.reduceAdd, Nat.reduceLeDiff, Nat.reduceLT, Nat.reduceBEq, Nat.reduceSub, EE.down]
    refine bL (fun j s => ∃ (o1_1 : Nat) (o1_0 : SchedQueue), (o1_1 ≤ x0.Stuck.length ∧ j = x0.Stuck.length - o1_1) ∧ s = ⟨[(1, .one (.c (.pt 0 0))), (2, .one (.c (.pt 1 0))), (3, .one (.c (.d (.sl (x0.Stuck.map eWorkItem))))), (4, .one (.c (.d (.v (.int .i64 ((o1_1 : Int)))))))], [some (.box [.d (.sl (((o1_0).Waiting).map eWorkItem)), .d (.sl (((o1_0).Active).map eWorkItem)), .d (.sl (((o1_0).Stuck).map eWorkItem)), .d (.sl (((o1_0).Backoff).map eWorkItem)), .d (.sl (((o1_0).Retries).map eWorkItem)), .d (.v (.int .i64 ((o1_0).Cycle)))]), some (.box [.d (.v (.slice none 0 0)), .d (.v (.slice none 0 0)), .d (.v (.slice none 0 0)), .d (.v (.slice none 0 0)), .d (.v (.slice none 0 0)), .d (.v (.int .i64 0))])]⟩ ∧ F29_l1 (x0.Stuck.drop o1_1) o1_1 o1_0 = some o1) (x0.Stuck.length - 0) [some 0, some 1] ⟨0, x0, ⟨hk.1, rfl⟩, rfl, h⟩ ?_
    rintro _ _ ⟨o1_1, o1_0, ⟨hi, rfl⟩, rfl, h⟩
    simp only [VW.down, Nat.reduceEqDiff, reduceCtorEq, Nat.reduceAdd, Nat.reduceLeDiff, Nat.reduceLT, Nat.reduceBEq, Nat.reduceSub, EE.down]
    refine condS (fun c2 => ?_) (fun c2 => ?_)
    · obtain ⟨xo1, hxo1, hd⟩ := countY c2
      rw [hd, F29_l1] at h
      simp only [VW.down, Nat.reduceEqDiff, reduceCtorEq, Nat.reduceAdd, Nat.reduceLeDiff, Nat.reduceLT, Nat.reduceBEq, Nat.reduceSub, EE.down]
      refine t_idxF (enc := eWorkItem) (xs := x0.Stuck) rfl rfl hxo1 rfl ?_
      simp only [VW.down, Nat.reduceEqDiff, reduceCtorEq, Nat.reduceAdd, Nat.reduceLeDiff, Nat.reduceLT, Nat.reduceBEq, Nat.reduceSub, EE.down]
      refine t_idxF (enc := eWorkItem) (xs := x0.Stuck) rfl rfl hxo1 rfl ?_
      simp only [VW.down, Nat.reduceEqDiff, reduceCtorEq, Nat.reduceAdd, Nat.reduceLeDiff, Nat.reduceLT, Nat.reduceBEq, Nat.reduceSub, EE.down]
      obtain ⟨t3, ht3, h⟩ := Option.bind_eq_some_iff.1 h
      refine callX_n [] (F25_ok ht3) ?_ ?_ ?_ ?_ ?_ ?_
      · first | rfl | simp [nrmA, nrmC, nrm, A1.ren, C.ren, rn, List.length_set]
      · simp [liveAll, A1.live, C.live]
      · rfl
      · decide
      · exact trivial
      simp only [VW.down, Nat.reduceEqDiff, reduceCtorEq, Nat.reduceAdd, Nat.reduceLeDiff, Nat.reduceLT, Nat.reduceBEq, Nat.reduceSub, EE.down]
      rw [wrapN (by omega)]
      exact eL' (x0.Stuck.length - (o1_1 + 1)) [some 0, some 1] ⟨o1_1 + 1, (⟨t3.1, t3.2.1, t3.2.2.1, t3.2.2.2, ((⟨(o1_0).Waiting, (o1_0).Active, (o1_0).Stuck, (o1_0).Backoff, (o1_0).Retries, (o1_0).Cycle⟩ : SchedQueue)).Retries, ((⟨(o1_0).Waiting, (o1_0).Active, (o1_0).Stuck, (o1_0).Backoff, (o1_0).Retries, (o1_0).Cycle⟩ : SchedQueue)).Cycle⟩ : SchedQueue), ⟨by omega, rfl⟩, rfl, h⟩ (by omega)
    · rw [countN c2, F29_l1] at h
      simp only [VW.down, Nat.reduceEqDiff, reduceCtorEq, Nat.reduceAdd, Nat.reduceLeDiff, Nat.reduceLT, Nat.reduceBEq, Nat.reduceSub, EE.down]
      obtain rfl := Option.some.inj h
      exact eM [some 0, some 1] rfl
  · rintro _ rfl
    clear ho
    simp only [VW.down, Nat.reduceEqDiff, reduceCtorEq, Nat.reduceAdd, Nat.reduceLeDiff, Nat.reduceLT, Nat.reduceBEq, Nat.reduceSub, EE.down]
    obtain rfl := Option.some.inj h
    exact eF []

/- orchestrator/orchestratorref42.Advance -/
def F30_l1 (x0 : SchedQueue) (x1 : Int) : Nat → SchedQueue → Int → Option (SchedQueue)
  | 0, _, _ => none
  | k + 1, o1_0, o1_1 => (((if o1_1 < (x0.Backoff.length : Int) then (rdI x0.Backoff o1_1).bind fun y4 => some (decide (y4.At ≤ x1)) else some false)).bind fun o2 => (if o2 = true then (((rdI x0.Backoff o1_1).bind fun y7 => (F44 ((o1_0).Waiting) y7.Key).bind fun t8 => (if 0 ≤ t8 then (rdI ((o1_0).Waiting) t8).bind fun y10 => (F25 ((⟨(o1_0).Waiting, (o1_0).Active, (o1_0).Stuck, (o1_0).Backoff, (o1_0).Retries, (o1_0).Cycle⟩ : SchedQueue)) y7.Key y10.At).bind fun t11 => some ((⟨t11.1, t11.2.1, t11.2.2.1, t11.2.2.2, ((⟨(o1_0).Waiting, (o1_0).Active, (o1_0).Stuck, (o1_0).Backoff, (o1_0).Retries, (o1_0).Cycle⟩ : SchedQueue)).Retries, ((⟨(o1_0).Waiting, (o1_0).Active, (o1_0).Stuck, (o1_0).Backoff, (o1_0).Retries, (o1_0).Cycle⟩ : SchedQueue)).Cycle⟩ : SchedQueue)) else some ((⟨(o1_0).Waiting, (o1_0).Active, (o1_0).Stuck, (o1_0).Backoff, (o1_0).Retries, (o1_0).Cycle⟩ : SchedQueue)))).bind fun o6 => F30_l1 x0 x1 k ((⟨(o6).Waiting, (o6).Active, (o6).Stuck, (o6).Backoff, (o6).Retries, (o6).Cycle⟩ : SchedQueue)) ((IntKind.i64.wrap (o1_1 + 1)))) else some ((⟨(o1_0).Waiting, (o1_0).Active, (o1_0).Stuck, (o1_0).Backoff, (o1_0).Retries, (o1_0).Cycle⟩ : SchedQueue))))
def F30 (x0 : SchedQueue) (x1 : Int) : Option (SchedQueue) := ((F30_l1 x0 x1 1099511627776 x0 0).bind fun o1 => some ((⟨(o1).Waiting, (o1).Active, (o1).Stuck, (o1).Backoff, (o1).Retries, (o1).Cycle⟩ : SchedQueue)))
def a30 : AFn := ⟨49, [(.cell 4 (some 6))],
 (.seq (.reg [⟨(some 2), none, .box (.t 0), [], none⟩,
   ⟨(some 4), none, .zbox [.d (.v (.slice none 0 0)), .d (.v (.slice none 0 0)), .d (.v (.slice none 0 0)), .d (.v (.slice none 0 0)), .d (.v (.slice none 0 0)), .d (.v (.int .i64 0))], [], none⟩])
 (.seq (.reg [⟨(some 8), none, .fieldA 3 (.t 2), [], none⟩,
   ⟨(some 9), none, .load none (.t 8), [], none⟩,
   ⟨(some 5), none, .mv (.t 9), [], none⟩])
 (.seq (.seq (.reg [⟨(some 6), none, .mv (kI 0), [], none⟩])
 (.sem (.block 0 (.loop (.seq (.seq (.sem (.reg [⟨(some 10), none, .mv (.t 6), [], none⟩,
   ⟨(some 11), none, .mv (.t 5), [], none⟩,
   ⟨(some 12), none, .len (.t 11), [], none⟩,
   ⟨(some 13), none, .bin .lss (.t 10) (.t 12), [], none⟩,
   ⟨(some 14), none, .mv (.t 13), [], none⟩,
   ⟨(some 15), (some (14, true)), .mv (.t 5), [], none⟩,
   ⟨(some 16), (some (14, true)), .mv (.t 6), [], none⟩,
   ⟨(some 17), (some (14, true)), .indexA 2 (.t 15) (.t 16), [], none⟩,
   ⟨(some 18), (some (14, true)), .fieldA 1 (.t 17), [], none⟩,
   ⟨(some 19), (some (14, true)), .load none (.t 18), [], none⟩,
   ⟨(some 20), (some (14, true)), .mv (.t 1), [], none⟩,
   ⟨(some 21), (some (14, true)), .bin .leq (.t 19) (.t 20), [], none⟩,
   ⟨(some 22), none, .pick (.t 14) (.t 21) (kB false), [], (some [11, 15, 17, 18])⟩]))
 (.cond (.t 22)
 .skip
 (.exit 0)))
 (.seq (.sem (.block 1 (.seq (.regd [⟨(some 25), none, .fieldA 0 (.t 2), [], none⟩,
   ⟨(some 26), none, .load none (.t 25), [0], none⟩,
   ⟨(some 27), none, .mv (.t 5), [], none⟩,
   ⟨(some 28), none, .mv (.t 6), [], none⟩,
   ⟨(some 29), none, .indexA 2 (.t 27) (.t 28), [2, 3], none⟩,
   ⟨(some 30), none, .fieldA 0 (.t 29), [2, 3, 4], none⟩,
   ⟨(some 31), none, .load none (.t 30), [2, 3, 4, 5], none⟩,
   ⟨(some 32), none, .call 44 [(.t 26), (.t 31)], [0, 1, 2, 3, 4, 5, 6], (some [])⟩,
   ⟨(some 7), none, .mv (.t 32), [0, 1, 2, 3, 4, 5, 6, 7], none⟩])
 (.seq (.reg [⟨(some 33), none, .mv (.t 7), [], none⟩,
   ⟨(some 34), none, .bin .geq (.t 33) (kI 0), [], none⟩])
 (.cond (.t 34)
 (.regd [⟨(some 35), none, .load (some 6) (.t 2), [], none⟩,
   ⟨(some 36), none, .mv (.t 5), [], none⟩,
   ⟨(some 37), none, .mv (.t 6), [], none⟩,
   ⟨(some 38), none, .indexA 2 (.t 36) (.t 37), [1, 2], none⟩,
   ⟨(some 39), none, .fieldA 0 (.t 38), [1, 2, 3], none⟩,
   ⟨(some 40), none, .load none (.t 39), [1, 2, 3, 4], none⟩,
   ⟨(some 41), none, .fieldA 0 (.t 2), [], none⟩,
   ⟨(some 42), none, .load none (.t 41), [6], none⟩,
   ⟨(some 43), none, .mv (.t 7), [], none⟩,
   ⟨(some 44), none, .indexA 2 (.t 42) (.t 43), [6, 7, 8], none⟩,
   ⟨(some 45), none, .fieldA 1 (.t 44), [6, 7, 8, 9], none⟩,
   ⟨(some 46), none, .load none (.t 45), [6, 7, 8, 9, 10], none⟩,
   ⟨(some 47), none, .call 25 [(.t 35), (.t 40), (.t 46)], [0, 1, 2, 3, 4, 5, 6, 7, 8, 9, 10, 11], (some [])⟩,
   ⟨none, none, .store 6 (.t 2) (.t 47), [0, 1, 2, 3, 4, 5, 6, 7, 8, 9, 10, 11, 12], (some [])⟩])
 .skip)))))
 (.reg [⟨(some 23), none, .mv (.t 6), [], none⟩,
   ⟨(some 24), none, .bin .add (.t 23) (kI 1), [], none⟩,
   ⟨(some 6), none, .mv (.t 24), [], none⟩])))))))
 (.seq (.reg [⟨(some 48), none, .load (some 6) (.t 2), [], none⟩,
   ⟨none, none, .store 6 (.t 4) (.t 48), [], (some [2])⟩])
 .ret))))⟩
theorem a30_ok : afn Try.prog 30 = some a30.er := by kernel_rfl
theorem F30_ok {x0 : SchedQueue} {x1 : Int} {r : SchedQueue} (h : F30 x0 x1 = some r) : CallD Try.prog 30 [.agg [.d (.sl (x0.Waiting.map eWorkItem)), .d (.sl (x0.Active.map eWorkItem)), .d (.sl (x0.Stuck.map eWorkItem)), .d (.sl (x0.Backoff.map eWorkItem)), .d (.sl (x0.Retries.map eWorkItem)), .d (.v (.int .i64 x0.Cycle))], .c (.d (.v (.int .i64 x1)))] [] (tupV [.agg [.d (.sl (((r).Waiting).map eWorkItem)), .d (.sl (((r).Active).map eWorkItem)), .d (.sl (((r).Stuck).map eWorkItem)), .d (.sl (((r).Backoff).map eWorkItem)), .d (.sl (((r).Retries).map eWorkItem)), .d (.v (.int .i64 ((r).Cycle)))]]) [] := by
  refine callS a30_ok (by simp [a30]) ?_
  rw [F30] at h
  simp only [a30, VW.down, Nat.reduceEqDiff, reduceCtorEq, Nat.reduceAdd, Nat.reduceLeDiff, Nat.reduceLT, Nat.reduceBEq, Nat.reduceSub, EE.down]
  obtain ⟨o1, ho, h⟩ := Option.bind_eq_some_iff.1 h
  refine cutS (fun s => s = ⟨[(2, .one (.c (.pt 0 0))), (4, .one (.c (.pt 1 0)))], [some (.box [.d (.sl (((o1).Waiting).map eWorkItem)), .d (.sl (((o1).Active).map eWorkItem)), .d (.sl (((o1).Stuck).map eWorkItem)), .d (.sl (((o1).Backoff).map eWorkItem)), .d (.sl (((o1).Retries).map eWorkItem)), .d (.v (.int .i64 ((o1).Cycle)))]), some (.box [.d (.v (.slice none 0 0)), .d (.v (.slice none 0 0)), .d (.v (.slice none 0 0)), .d (.v (.slice none 0 0)), .d (.v (.slice none 0 0)), .d (.v (.int .i64 0))])]⟩) ?_ ?_
  · have h := ho
    clear ho
    simp only [VW.down, Nat.reduceEqDiff, reduceCtorEq, Nat.reduceAdd, Nat.reduceLeDiff, Nat.reduceLT, Nat.reduceBEq, Nat.reduceSub, EE.down]
    refine bL (fun j s => ∃ (o1_0 : SchedQueue) (o1_1 : Int), s = ⟨[(1, .one (.c (.d (.v (.int .i64 x1))))), (2, .one (.c (.pt 0 0))), (4, .one (.c (.pt 1 0))), (5, .one (.c (.d (.sl (x0.Backoff.map eWorkItem))))), (6, .one (.c (.d (.v (.int .i64 o1_1)))))], [some (.box [.d (.sl (((o1_0).Waiting).map eWorkItem)), .d (.sl (((o1_0).Active).map eWorkItem)), .d (.sl (((o1_0).Stuck).map eWorkItem)), .d (.sl (((o1_0).Backoff).map eWorkItem)), .d (.sl (((o1_0).Retries).map eWorkItem)), .d (.v (.int .i64 ((o1_0).Cycle)))]), some (.box [.d (.v (.slice none 0 0)), .d (.v (.slice none 0 0)), .d (.v (.slice none 0 0)), .d (.v (.slice none 0 0)), .d (.v (.slice none 0 0)), .d (.v (.int .i64 0))])]⟩ ∧ F30_l1 x0 x1 j o1_0 o1_1 = some o1) 1099511627776 [some 0, some 1] ⟨x0, 0, rfl, h⟩ ?_
    rintro j _ ⟨o1_0, o1_1, rfl, h⟩
    cases j with
    | zero => cases (show (none : Option _) = some _ from h)
    | succ j =>
      rw [F30_l1] at h
      simp only [VW.down, Nat.reduceEqDiff, reduceCtorEq, Nat.reduceAdd, Nat.reduceLeDiff, Nat.reduceLT, Nat.reduceBEq, Nat.reduceSub, EE.down]
      obtain ⟨o2, ho, h⟩ := Option.bind_eq_some_iff.1 h
      refine cutS (fun s => s = ⟨[(1, .one (.c (.d (.v (.int .i64 x1))))), (2, .one (.c (.pt 0 0))), (4, .one (.c (.pt 1 0))), (5, .one (.c (.d (.sl (x0.Backoff.map eWorkItem))))), (6, .one (.c (.d (.v (.int .i64 o1_1))))), (22, .one (.c (.d (.v (.bool o2)))))], [some (.box [.d (.sl (((o1_0).Waiting).map eWorkItem)), .d (.sl (((o1_0).Active).map eWorkItem)), .d (.sl (((o1_0).Stuck).map eWorkItem)), .d (.sl (((o1_0).Backoff).map eWorkItem)), .d (.sl (((o1_0).Retries).map eWorkItem)), .d (.v (.int .i64 ((o1_0).Cycle)))]), some (.box [.d (.v (.slice none 0 0)), .d (.v (.slice none 0 0)), .d (.v (.slice none 0 0)), .d (.v (.slice none 0 0)), .d (.v (.slice none 0 0)), .d (.v (.int .i64 0))])]⟩) ?_ ?_
      · have h := ho
        clear ho
        simp only [VW.down, Nat.reduceEqDiff, reduceCtorEq, Nat.reduceAdd, Nat.reduceLeDiff, Nat.reduceLT, Nat.reduceBEq, Nat.reduceSub, EE.down]
        refine guardS (fun g3 => ?_) (fun g3 => ?_)
        · have h := (if_pos g3).symm.trans h
          simp only [VW.down, Nat.reduceEqDiff, reduceCtorEq, Nat.reduceAdd, Nat.reduceLeDiff, Nat.reduceLT, Nat.reduceBEq, Nat.reduceSub, EE.down]
          obtain ⟨y4, hy4, h⟩ := Option.bind_eq_some_iff.1 h
          refine t_idxF (enc := eWorkItem) (xs := x0.Backoff) rfl rfl hy4 rfl ?_
          simp only [VW.down, Nat.reduceEqDiff, reduceCtorEq, Nat.reduceAdd, Nat.reduceLeDiff, Nat.reduceLT, Nat.reduceBEq, Nat.reduceSub, EE.down]
          obtain rfl := Option.some.inj h
          exact eM [some 0, some 1] rfl
        · have h := (if_neg g3).symm.trans h
          simp only [VW.down, Nat.reduceEqDiff, reduceCtorEq, Nat.reduceAdd, Nat.reduceLeDiff, Nat.reduceLT, Nat.reduceBEq, Nat.reduceSub, EE.down]
          obtain rfl := Option.some.inj h
          exact eM [some 0, some 1] rfl
      · rintro _ rfl
        clear ho
        simp only [VW.down, Nat.reduceEqDiff, reduceCtorEq, Nat.reduceAdd, Nat.reduceLeDiff, Nat.reduceLT, Nat.reduceBEq, Nat.reduceSub, EE.down]
        refine condB (fun c5 => ?_) (fun c5 => ?_)
        · have h := (if_pos c5).symm.trans h
          simp only [VW.down, Nat.reduceEqDiff, reduceCtorEq, Nat.reduceAdd, Nat.reduceLeDiff, Nat.reduceLT, Nat.reduceBEq, Nat.reduceSub, EE.down]
          obtain ⟨o6, ho, h⟩ := Option.bind_eq_some_iff.1 h
          refine cutS (fun s => s = ⟨[(1, .one (.c (.d (.v (.int .i64 x1))))), (2, .one (.c (.pt 0 0))), (4, .one (.c (.pt 1 0))), (5, .one (.c (.d (.sl (x0.Backoff.map eWorkItem))))), (6, .one (.c (.d (.v (.int .i64 o1_1)))))], [some (.box [.d (.sl (((o6).Waiting).map eWorkItem)), .d (.sl (((o6).Active).map eWorkItem)), .d (.sl (((o6).Stuck).map eWorkItem)), .d (.sl (((o6).Backoff).map eWorkItem)), .d (.sl (((o6).Retries).map eWorkItem)), .d (.v (.int .i64 ((o6).Cycle)))]), some (.box [.d (.v (.slice none 0 0)), .d (.v (.slice none 0 0)), .d (.v (.slice none 0 0)), .d (.v (.slice none 0 0)), .d (.v (.slice none 0 0)), .d (.v (.int .i64 0))])]⟩) ?_ ?_
          · have h := ho
            clear ho
            simp only [VW.down, Nat.reduceEqDiff, reduceCtorEq, Nat.reduceAdd, Nat.reduceLeDiff, Nat.reduceLT, Nat.reduceBEq, Nat.reduceSub, EE.down]
            obtain ⟨y7, hy7, h⟩ := Option.bind_eq_some_iff.1 h
            refine t_idxF (enc := eWorkItem) (xs := x0.Backoff) rfl rfl hy7 rfl ?_
            simp only [VW.down, Nat.reduceEqDiff, reduceCtorEq, Nat.reduceAdd, Nat.reduceLeDiff, Nat.reduceLT, Nat.reduceBEq, Nat.reduceSub, EE.down]
            obtain ⟨t8, ht8, h⟩ := Option.bind_eq_some_iff.1 h
            refine callX_n [] (F44_ok ht8) ?_ ?_ ?_ ?_ ?_ ?_
            · first | rfl | simp [nrmA, nrmC, nrm, A1.ren, C.ren, rn, List.length_set]
            · simp [liveAll, A1.live, C.live]
            · rfl
            · decide
            · exact trivial
            simp only [VW.down, Nat.reduceEqDiff, reduceCtorEq, Nat.reduceAdd, Nat.reduceLeDiff, Nat.reduceLT, Nat.reduceBEq, Nat.reduceSub, EE.down]
            refine condS (fun c9 => ?_) (fun c9 => ?_)
            · have h := (if_pos c9).symm.trans h
              simp only [VW.down, Nat.reduceEqDiff, reduceCtorEq, Nat.reduceAdd, Nat.reduceLeDiff, Nat.reduceLT, Nat.reduceBEq, Nat.reduceSub, EE.down]
              refine t_idxF (enc := eWorkItem) (xs := x0.Backoff) rfl rfl hy7 rfl ?_
              simp only [VW.down, Nat.reduceEqDiff, reduceCtorEq, Nat.reduceAdd, Nat.reduceLeDiff, Nat.reduceLT, Nat.reduceBEq, Nat.reduceSub, EE.down]
              obtain ⟨y10, hy10, h⟩ := Option.bind_eq_some_iff.1 h
              refine t_idxF (enc := eWorkItem) (xs := ((o1_0).Waiting)) rfl rfl hy10 rfl ?_
              simp only [VW.down, Nat.reduceEqDiff, reduceCtorEq, Nat.reduceAdd, Nat.reduceLeDiff, Nat.reduceLT, Nat.reduceBEq, Nat.reduceSub, EE.down]
              obtain ⟨t11, ht11, h⟩ := Option.bind_eq_some_iff.1 h
              refine callX_n [] (F25_ok ht11) ?_ ?_ ?_ ?_ ?_ ?_
              · first | rfl | simp [nrmA, nrmC, nrm, A1.ren, C.ren, rn, List.length_set]
              · simp [liveAll, A1.live, C.live]
              · rfl
              · decide
              · exact trivial
              simp only [VW.down, Nat.reduceEqDiff, reduceCtorEq, Nat.reduceAdd, Nat.reduceLeDiff, Nat.reduceLT, Nat.reduceBEq, Nat.reduceSub, EE.down]
              obtain rfl := Option.some.inj h
              exact eM [some 0, some 1] rfl
            · have h := (if_neg c9).symm.trans h
              simp only [VW.down, Nat.reduceEqDiff, reduceCtorEq, Nat.reduceAdd, Nat.reduceLeDiff, Nat.reduceLT, Nat.reduceBEq, Nat.reduceSub, EE.down]
              obtain rfl := Option.some.inj h
              exact eM [some 0, some 1] rfl
          · rintro _ rfl
            clear ho
            simp only [VW.down, Nat.reduceEqDiff, reduceCtorEq, Nat.reduceAdd, Nat.reduceLeDiff, Nat.reduceLT, Nat.reduceBEq, Nat.reduceSub, EE.down]
            exact eL' j [some 0, some 1] ⟨(⟨(o6).Waiting, (o6).Active, (o6).Stuck, (o6).Backoff, (o6).Retries, (o6).Cycle⟩ : SchedQueue), (IntKind.i64.wrap (o1_1 + 1)), rfl, h⟩ (Nat.lt_succ_self _)
        · have h := (if_neg c5).symm.trans h
          simp only [VW.down, Nat.reduceEqDiff, reduceCtorEq, Nat.reduceAdd, Nat.reduceLeDiff, Nat.reduceLT, Nat.reduceBEq, Nat.reduceSub, EE.down]
          obtain rfl := Option.some.inj h
          exact eM [some 0, some 1] rfl
  · rintro _ rfl
    clear ho
    simp only [VW.down, Nat.reduceEqDiff, reduceCtorEq, Nat.reduceAdd, Nat.reduceLeDiff, Nat.reduceLT, Nat.reduceBEq, Nat.reduceSub, EE.down]
    obtain rfl := Option.some.inj h
    exact eF []

/- orchestrator/orchestratorref42.Remove -/
def F31 (x0 : SchedQueue) (x1 : ByteArray) : Option ((List WorkItem) × (List WorkItem) × (List WorkItem) × (List WorkItem) × (List WorkItem)) := (F45 x0 x1).bind fun t1 => (F50 x0.Retries x1).bind fun t2 => some ((t1.1, t1.2.1, t1.2.2.1, t1.2.2.2, t2))
def a31 : AFn := ⟨14, [(.cell 4 (some 6))],
 (.seq (.reg [⟨(some 2), none, .box (.t 0), [], none⟩,
   ⟨(some 4), none, .zbox [.d (.v (.slice none 0 0)), .d (.v (.slice none 0 0)), .d (.v (.slice none 0 0)), .d (.v (.slice none 0 0)), .d (.v (.slice none 0 0)), .d (.v (.int .i64 0))], [], none⟩])
 (.seq (.reg [⟨(some 5), none, .load (some 6) (.t 2), [], none⟩,
   ⟨(some 6), none, .mv (.t 1), [], none⟩,
   ⟨(some 7), none, .call 45 [(.t 5), (.t 6)], [], none⟩,
   ⟨none, none, .store 6 (.t 2) (.t 7), [], none⟩])
 (.seq (.reg [⟨(some 8), none, .fieldA 4 (.t 2), [], none⟩,
   ⟨(some 9), none, .load none (.t 8), [], none⟩,
   ⟨(some 10), none, .mv (.t 1), [], none⟩,
   ⟨(some 11), none, .call 50 [(.t 9), (.t 10)], [], none⟩,
   ⟨(some 12), none, .fieldA 4 (.t 2), [], none⟩,
   ⟨none, none, .store 1 (.t 12) (.t 11), [], none⟩])
 (.seq (.reg [⟨(some 13), none, .load (some 6) (.t 2), [], none⟩,
   ⟨none, none, .store 6 (.t 4) (.t 13), [], (some [2])⟩])
 .ret))))⟩
theorem a31_ok : afn Try.prog 31 = some a31.er := by kernel_rfl
theorem F31_ok {x0 : SchedQueue} {x1 : ByteArray} {r : (List WorkItem) × (List WorkItem) × (List WorkItem) × (List WorkItem) × (List WorkItem)} (h : F31 x0 x1 = some r) : CallD Try.prog 31 [.agg [.d (.sl (x0.Waiting.map eWorkItem)), .d (.sl (x0.Active.map eWorkItem)), .d (.sl (x0.Stuck.map eWorkItem)), .d (.sl (x0.Backoff.map eWorkItem)), .d (.sl (x0.Retries.map eWorkItem)), .d (.v (.int .i64 x0.Cycle))], .c (.d (.v (.string x1)))] [] (tupV [.agg [.own 0 0 0 (r.1.length) none, .own 1 0 0 (r.2.1.length) none, .own 2 0 0 (r.2.2.1.length) none, .own 3 0 0 (r.2.2.2.1.length) none, .own 4 0 0 (r.2.2.2.2.length) none, .d (.v (.int .i64 x0.Cycle))]]) [some (.arr 0 2 (r.1.map eWorkItem)), some (.arr 0 2 (r.2.1.map eWorkItem)), some (.arr 0 2 (r.2.2.1.map eWorkItem)), some (.arr 0 2 (r.2.2.2.1.map eWorkItem)), some (.arr 0 2 (r.2.2.2.2.map eWorkItem))] := by
  refine callS a31_ok (by simp [a31]) ?_
  rw [F31] at h
  simp only [a31, VW.down, Nat.reduceEqDiff, reduceCtorEq, Nat.reduceAdd, Nat.reduceLeDiff, Nat.reduceLT, Nat.reduceBEq, Nat.reduceSub, EE.down]
  obtain ⟨t1, ht1, h⟩ := Option.bind_eq_some_iff.1 h
  refine callX_n [] (F45_ok ht1) ?_ ?_ ?_ ?_ ?_ ?_
  · first | rfl | simp [nrmA, nrmC, nrm, A1.ren, C.ren, rn, List.length_set]
  · simp [liveAll, A1.live, C.live]
  · rfl
  · decide
  · exact trivial
  simp only [VW.down, Nat.reduceEqDiff, reduceCtorEq, Nat.reduceAdd, Nat.reduceLeDiff, Nat.reduceLT, Nat.reduceBEq, Nat.reduceSub, EE.down]
  obtain ⟨t2, ht2, h⟩ := Option.bind_eq_some_iff.1 h
  refine callX_n [] (F50_ok ht2) ?_ ?_ ?_ ?_ ?_ ?_
  · first | rfl | simp [nrmA, nrmC, nrm, A1.ren, C.ren, rn, List.length_set]
  · simp [liveAll, A1.live, C.live]
  · rfl
  · decide
  · exact trivial
  simp only [VW.down, Nat.reduceEqDiff, reduceCtorEq, Nat.reduceAdd, Nat.reduceLeDiff, Nat.reduceLT, Nat.reduceBEq, Nat.reduceSub, EE.down]
  obtain rfl := Option.some.inj h
  exact eF [some 2, some 3, some 4, some 5, some 6]

/- orchestrator/orchestratorref42.Do -/
def F12 (x0 : SchedQueue) (x1 : Act) : Option ((List WorkItem) × (List WorkItem) × (List WorkItem) × (List WorkItem) × (List WorkItem) × Int × ByteArray × Bool) := (if x1.Kind = 0 then (F25 x0 x1.Key x1.Priority).bind fun t2 => some ((t2.1, t2.2.1, t2.2.2.1, t2.2.2.2, x0.Retries, x0.Cycle, (⟨#[]⟩ : ByteArray), false)) else (if x1.Kind = 1 then (F26 x0).bind fun t4 => some (((t4.1).Waiting, (t4.1).Active, (t4.1).Stuck, (t4.1).Backoff, (t4.1).Retries, (t4.1).Cycle, t4.2.1, t4.2.2)) else (if x1.Kind = 2 then (F27 x0 x1.Key x1.Priority).bind fun t6 => some ((t6.1, t6.2.1, t6.2.2.1, t6.2.2.2, x0.Retries, x0.Cycle, (⟨#[]⟩ : ByteArray), false)) else (if x1.Kind = 3 then (F28 x0 x1.Key x1.Priority x1.N).bind fun t8 => some ((t8.1, t8.2.1, t8.2.2.1, t8.2.2.2.1, t8.2.2.2.2, x0.Cycle, (⟨#[]⟩ : ByteArray), false)) else (if x1.Kind = 4 then (F29 x0).bind fun t10 => some (((t10).Waiting, (t10).Active, (t10).Stuck, (t10).Backoff, (t10).Retries, (t10).Cycle, (⟨#[]⟩ : ByteArray), false)) else (if x1.Kind = 5 then (F30 x0 x1.N).bind fun t12 => some (((t12).Waiting, (t12).Active, (t12).Stuck, (t12).Backoff, (t12).Retries, (t12).Cycle, (⟨#[]⟩ : ByteArray), false)) else (F31 x0 x1.Key).bind fun t13 => some ((t13.1, t13.2.1, t13.2.2.1, t13.2.2.2.1, t13.2.2.2.2, x0.Cycle, (⟨#[]⟩ : ByteArray), false))))))))
def a12 : AFn := ⟨56, [(.cell 4 (some 6)), (.tmp 5), (.tmp 6)],
 (.seq (.reg [⟨(some 2), none, .box (.t 0), [], none⟩,
   ⟨(some 3), none, .box (.t 1), [], none⟩,
   ⟨(some 4), none, .zbox [.d (.v (.slice none 0 0)), .d (.v (.slice none 0 0)), .d (.v (.slice none 0 0)), .d (.v (.slice none 0 0)), .d (.v (.slice none 0 0)), .d (.v (.int .i64 0))], [], none⟩,
   ⟨(some 5), none, .mv (kS ⟨#[]⟩), [], none⟩,
   ⟨(some 6), none, .mv (kB false), [], none⟩])
 (.seq (.seq (.reg [⟨(some 7), none, .fieldA 0 (.t 3), [], none⟩,
   ⟨(some 8), none, .load none (.t 7), [], none⟩])
 (.block 0 (.seq (.reg [⟨(some 10), none, .bin .eql (.t 8) (.k (.c (.d (.v (.int .u8 0))))), [], none⟩,
   ⟨(some 9), none, .mv (.t 10), [], none⟩])
 (.cond (.t 9)
 (.seq (.reg [⟨(some 11), none, .load (some 6) (.t 2), [], none⟩,
   ⟨(some 12), none, .fieldA 1 (.t 3), [], none⟩,
   ⟨(some 13), none, .load none (.t 12), [], none⟩,
   ⟨(some 14), none, .fieldA 2 (.t 3), [], none⟩,
   ⟨(some 15), none, .load none (.t 14), [], none⟩,
   ⟨(some 16), none, .call 25 [(.t 11), (.t 13), (.t 15)], [], none⟩,
   ⟨none, none, .store 6 (.t 4) (.t 16), [], none⟩,
   ⟨(some 5), none, .mv (kS ⟨#[]⟩), [], none⟩,
   ⟨(some 6), none, .mv (kB false), [], none⟩])
 .ret)
 (.seq (.reg [⟨(some 18), none, .bin .eql (.t 8) (.k (.c (.d (.v (.int .u8 1))))), [], none⟩,
   ⟨(some 17), none, .mv (.t 18), [], none⟩])
 (.cond (.t 17)
 (.seq (.reg [⟨(some 19), none, .load (some 6) (.t 2), [], none⟩,
   ⟨(some 20), none, .call 26 [(.t 19)], [], none⟩,
   ⟨(some 21), none, .ext (.t 20) 0, [], none⟩,
   ⟨(some 22), none, .ext (.t 20) 1, [], none⟩,
   ⟨(some 23), none, .ext (.t 20) 2, [], none⟩,
   ⟨none, none, .store 6 (.t 4) (.t 21), [], none⟩,
   ⟨(some 5), none, .mv (.t 22), [], none⟩,
   ⟨(some 6), none, .mv (.t 23), [], none⟩])
 .ret)
 (.seq (.reg [⟨(some 25), none, .bin .eql (.t 8) (.k (.c (.d (.v (.int .u8 2))))), [], none⟩,
   ⟨(some 24), none, .mv (.t 25), [], none⟩])
 (.cond (.t 24)
 (.seq (.reg [⟨(some 26), none, .load (some 6) (.t 2), [], none⟩,
   ⟨(some 27), none, .fieldA 1 (.t 3), [], none⟩,
   ⟨(some 28), none, .load none (.t 27), [], none⟩,
   ⟨(some 29), none, .fieldA 2 (.t 3), [], none⟩,
   ⟨(some 30), none, .load none (.t 29), [], none⟩,
   ⟨(some 31), none, .call 27 [(.t 26), (.t 28), (.t 30)], [], none⟩,
   ⟨none, none, .store 6 (.t 4) (.t 31), [], none⟩,
   ⟨(some 5), none, .mv (kS ⟨#[]⟩), [], none⟩,
   ⟨(some 6), none, .mv (kB false), [], none⟩])
 .ret)
 (.seq (.reg [⟨(some 33), none, .bin .eql (.t 8) (.k (.c (.d (.v (.int .u8 3))))), [], none⟩,
   ⟨(some 32), none, .mv (.t 33), [], none⟩])
 (.cond (.t 32)
 (.seq (.reg [⟨(some 34), none, .load (some 6) (.t 2), [], none⟩,
   ⟨(some 35), none, .fieldA 1 (.t 3), [], none⟩,
   ⟨(some 36), none, .load none (.t 35), [], none⟩,
   ⟨(some 37), none, .fieldA 2 (.t 3), [], none⟩,
   ⟨(some 38), none, .load none (.t 37), [], none⟩,
   ⟨(some 39), none, .fieldA 3 (.t 3), [], none⟩,
   ⟨(some 40), none, .load none (.t 39), [], none⟩,
   ⟨(some 41), none, .call 28 [(.t 34), (.t 36), (.t 38), (.t 40)], [], none⟩,
   ⟨none, none, .store 6 (.t 4) (.t 41), [], none⟩,
   ⟨(some 5), none, .mv (kS ⟨#[]⟩), [], none⟩,
   ⟨(some 6), none, .mv (kB false), [], none⟩])
 .ret)
 (.seq (.reg [⟨(some 43), none, .bin .eql (.t 8) (.k (.c (.d (.v (.int .u8 4))))), [], none⟩,
   ⟨(some 42), none, .mv (.t 43), [], none⟩])
 (.cond (.t 42)
 (.seq (.reg [⟨(some 44), none, .load (some 6) (.t 2), [], none⟩,
   ⟨(some 45), none, .call 29 [(.t 44)], [], none⟩,
   ⟨none, none, .store 6 (.t 4) (.t 45), [], none⟩,
   ⟨(some 5), none, .mv (kS ⟨#[]⟩), [], none⟩,
   ⟨(some 6), none, .mv (kB false), [], none⟩])
 .ret)
 (.seq (.reg [⟨(some 47), none, .bin .eql (.t 8) (.k (.c (.d (.v (.int .u8 5))))), [], none⟩,
   ⟨(some 46), none, .mv (.t 47), [], none⟩])
 (.cond (.t 46)
 (.seq (.reg [⟨(some 48), none, .load (some 6) (.t 2), [], none⟩,
   ⟨(some 49), none, .fieldA 3 (.t 3), [], none⟩,
   ⟨(some 50), none, .load none (.t 49), [], none⟩,
   ⟨(some 51), none, .call 30 [(.t 48), (.t 50)], [], none⟩,
   ⟨none, none, .store 6 (.t 4) (.t 51), [], none⟩,
   ⟨(some 5), none, .mv (kS ⟨#[]⟩), [], none⟩,
   ⟨(some 6), none, .mv (kB false), [], none⟩])
 .ret)
 .skip))))))))))))))
 (.seq (.reg [⟨(some 52), none, .load (some 6) (.t 2), [], none⟩,
   ⟨(some 53), none, .fieldA 1 (.t 3), [], none⟩,
   ⟨(some 54), none, .load none (.t 53), [], none⟩,
   ⟨(some 55), none, .call 31 [(.t 52), (.t 54)], [], none⟩,
   ⟨none, none, .store 6 (.t 4) (.t 55), [], none⟩,
   ⟨(some 5), none, .mv (kS ⟨#[]⟩), [], none⟩,
   ⟨(some 6), none, .mv (kB false), [], none⟩])
 .ret)))⟩
theorem a12_ok : afn Try.prog 12 = some a12.er := by kernel_rfl
theorem F12_ok {x0 : SchedQueue} {x1 : Act} {r : (List WorkItem) × (List WorkItem) × (List WorkItem) × (List WorkItem) × (List WorkItem) × Int × ByteArray × Bool} (h : F12 x0 x1 = some r) : CallD Try.prog 12 [.agg [.d (.sl (x0.Waiting.map eWorkItem)), .d (.sl (x0.Active.map eWorkItem)), .d (.sl (x0.Stuck.map eWorkItem)), .d (.sl (x0.Backoff.map eWorkItem)), .d (.sl (x0.Retries.map eWorkItem)), .d (.v (.int .i64 x0.Cycle))], .agg [.d (.v (.int .u8 x1.Kind)), .d (.v (.string x1.Key)), .d (.v (.int .i64 x1.Priority)), .d (.v (.int .i64 x1.N))]] [] (tupV [.agg [.d (.sl (r.1.map eWorkItem)), .d (.sl (r.2.1.map eWorkItem)), .d (.sl (r.2.2.1.map eWorkItem)), .d (.sl (r.2.2.2.1.map eWorkItem)), .d (.sl (r.2.2.2.2.1.map eWorkItem)), .d (.v (.int .i64 r.2.2.2.2.2.1))], .c (.d (.v (.string r.2.2.2.2.2.2.1))), .c (.d (.v (.bool r.2.2.2.2.2.2.2)))]) [] := by
  refine callS a12_ok (by simp [a12]) ?_
  rw [F12] at h
  simp only [a12, VW.down, Nat.reduceEqDiff, reduceCtorEq, Nat.reduceAdd, Nat.reduceLeDiff, Nat.reduceLT, Nat.reduceBEq, Nat.reduceSub, EE.down]
  refine condS (fun c1 => ?_) (fun c1 => ?_)
  · have h := (if_pos c1).symm.trans h
    simp only [VW.down, Nat.reduceEqDiff, reduceCtorEq, Nat.reduceAdd, Nat.reduceLeDiff, Nat.reduceLT, Nat.reduceBEq, Nat.reduceSub, EE.down]
    obtain ⟨t2, ht2, h⟩ := Option.bind_eq_some_iff.1 h
    refine callX_n [] (F25_ok ht2) ?_ ?_ ?_ ?_ ?_ ?_
    · first | rfl | simp [nrmA, nrmC, nrm, A1.ren, C.ren, rn, List.length_set]
    · simp [liveAll, A1.live, C.live]
    · rfl
    · decide
    · exact trivial
    simp only [VW.down, Nat.reduceEqDiff, reduceCtorEq, Nat.reduceAdd, Nat.reduceLeDiff, Nat.reduceLT, Nat.reduceBEq, Nat.reduceSub, EE.down]
    obtain rfl := Option.some.inj h
    exact eF []
  · have h := (if_neg c1).symm.trans h
    simp only [VW.down, Nat.reduceEqDiff, reduceCtorEq, Nat.reduceAdd, Nat.reduceLeDiff, Nat.reduceLT, Nat.reduceBEq, Nat.reduceSub, EE.down]
    refine condS (fun c3 => ?_) (fun c3 => ?_)
    · have h := (if_pos c3).symm.trans h
      simp only [VW.down, Nat.reduceEqDiff, reduceCtorEq, Nat.reduceAdd, Nat.reduceLeDiff, Nat.reduceLT, Nat.reduceBEq, Nat.reduceSub, EE.down]
      obtain ⟨t4, ht4, h⟩ := Option.bind_eq_some_iff.1 h
      refine callX_n [] (F26_ok ht4) ?_ ?_ ?_ ?_ ?_ ?_
      · first | rfl | simp [nrmA, nrmC, nrm, A1.ren, C.ren, rn, List.length_set]
      · simp [liveAll, A1.live, C.live]
      · rfl
      · decide
      · exact trivial
      simp only [VW.down, Nat.reduceEqDiff, reduceCtorEq, Nat.reduceAdd, Nat.reduceLeDiff, Nat.reduceLT, Nat.reduceBEq, Nat.reduceSub, EE.down]
      obtain rfl := Option.some.inj h
      exact eF []
    · have h := (if_neg c3).symm.trans h
      simp only [VW.down, Nat.reduceEqDiff, reduceCtorEq, Nat.reduceAdd, Nat.reduceLeDiff, Nat.reduceLT, Nat.reduceBEq, Nat.reduceSub, EE.down]
      refine condS (fun c5 => ?_) (fun c5 => ?_)
      · have h := (if_pos c5).symm.trans h
        simp only [VW.down, Nat.reduceEqDiff, reduceCtorEq, Nat.reduceAdd, Nat.reduceLeDiff, Nat.reduceLT, Nat.reduceBEq, Nat.reduceSub, EE.down]
        obtain ⟨t6, ht6, h⟩ := Option.bind_eq_some_iff.1 h
        refine callX_n [] (F27_ok ht6) ?_ ?_ ?_ ?_ ?_ ?_
        · first | rfl | simp [nrmA, nrmC, nrm, A1.ren, C.ren, rn, List.length_set]
        · simp [liveAll, A1.live, C.live]
        · rfl
        · decide
        · exact trivial
        simp only [VW.down, Nat.reduceEqDiff, reduceCtorEq, Nat.reduceAdd, Nat.reduceLeDiff, Nat.reduceLT, Nat.reduceBEq, Nat.reduceSub, EE.down]
        obtain rfl := Option.some.inj h
        exact eF []
      · have h := (if_neg c5).symm.trans h
        simp only [VW.down, Nat.reduceEqDiff, reduceCtorEq, Nat.reduceAdd, Nat.reduceLeDiff, Nat.reduceLT, Nat.reduceBEq, Nat.reduceSub, EE.down]
        refine condS (fun c7 => ?_) (fun c7 => ?_)
        · have h := (if_pos c7).symm.trans h
          simp only [VW.down, Nat.reduceEqDiff, reduceCtorEq, Nat.reduceAdd, Nat.reduceLeDiff, Nat.reduceLT, Nat.reduceBEq, Nat.reduceSub, EE.down]
          obtain ⟨t8, ht8, h⟩ := Option.bind_eq_some_iff.1 h
          refine callX_n [] (F28_ok ht8) ?_ ?_ ?_ ?_ ?_ ?_
          · first | rfl | simp [nrmA, nrmC, nrm, A1.ren, C.ren, rn, List.length_set]
          · simp [liveAll, A1.live, C.live]
          · rfl
          · decide
          · exact trivial
          simp only [VW.down, Nat.reduceEqDiff, reduceCtorEq, Nat.reduceAdd, Nat.reduceLeDiff, Nat.reduceLT, Nat.reduceBEq, Nat.reduceSub, EE.down]
          obtain rfl := Option.some.inj h
          exact eF []
        · have h := (if_neg c7).symm.trans h
          simp only [VW.down, Nat.reduceEqDiff, reduceCtorEq, Nat.reduceAdd, Nat.reduceLeDiff, Nat.reduceLT, Nat.reduceBEq, Nat.reduceSub, EE.down]
          refine condS (fun c9 => ?_) (fun c9 => ?_)
          · have h := (if_pos c9).symm.trans h
            simp only [VW.down, Nat.reduceEqDiff, reduceCtorEq, Nat.reduceAdd, Nat.reduceLeDiff, Nat.reduceLT, Nat.reduceBEq, Nat.reduceSub, EE.down]
            obtain ⟨t10, ht10, h⟩ := Option.bind_eq_some_iff.1 h
            refine callX_n [] (F29_ok ht10) ?_ ?_ ?_ ?_ ?_ ?_
            · first | rfl | simp [nrmA, nrmC, nrm, A1.ren, C.ren, rn, List.length_set]
            · simp [liveAll, A1.live, C.live]
            · rfl
            · decide
            · exact trivial
            simp only [VW.down, Nat.reduceEqDiff, reduceCtorEq, Nat.reduceAdd, Nat.reduceLeDiff, Nat.reduceLT, Nat.reduceBEq, Nat.reduceSub, EE.down]
            obtain rfl := Option.some.inj h
            exact eF []
          · have h := (if_neg c9).symm.trans h
            simp only [VW.down, Nat.reduceEqDiff, reduceCtorEq, Nat.reduceAdd, Nat.reduceLeDiff, Nat.reduceLT, Nat.reduceBEq, Nat.reduceSub, EE.down]
            refine condS (fun c11 => ?_) (fun c11 => ?_)
            · have h := (if_pos c11).symm.trans h
              simp only [VW.down, Nat.reduceEqDiff, reduceCtorEq, Nat.reduceAdd, Nat.reduceLeDiff, Nat.reduceLT, Nat.reduceBEq, Nat.reduceSub, EE.down]
              obtain ⟨t12, ht12, h⟩ := Option.bind_eq_some_iff.1 h
              refine callX_n [] (F30_ok ht12) ?_ ?_ ?_ ?_ ?_ ?_
              · first | rfl | simp [nrmA, nrmC, nrm, A1.ren, C.ren, rn, List.length_set]
              · simp [liveAll, A1.live, C.live]
              · rfl
              · decide
              · exact trivial
              simp only [VW.down, Nat.reduceEqDiff, reduceCtorEq, Nat.reduceAdd, Nat.reduceLeDiff, Nat.reduceLT, Nat.reduceBEq, Nat.reduceSub, EE.down]
              obtain rfl := Option.some.inj h
              exact eF []
            · have h := (if_neg c11).symm.trans h
              simp only [VW.down, Nat.reduceEqDiff, reduceCtorEq, Nat.reduceAdd, Nat.reduceLeDiff, Nat.reduceLT, Nat.reduceBEq, Nat.reduceSub, EE.down]
              obtain ⟨t13, ht13, h⟩ := Option.bind_eq_some_iff.1 h
              refine callX_n [] (F31_ok ht13) ?_ ?_ ?_ ?_ ?_ ?_
              · first | rfl | simp [nrmA, nrmC, nrm, A1.ren, C.ren, rn, List.length_set]
              · simp [liveAll, A1.live, C.live]
              · rfl
              · decide
              · exact trivial
              simp only [VW.down, Nat.reduceEqDiff, reduceCtorEq, Nat.reduceAdd, Nat.reduceLeDiff, Nat.reduceLT, Nat.reduceBEq, Nat.reduceSub, EE.down]
              obtain rfl := Option.some.inj h
              exact eF []

/- orchestrator/orchestratorref42.Items -/
def F32_l2 (x1 : (List WorkItem)) : List WorkItem → Nat → Option ((Bool) ⊕ (Unit))
  | [], o2_0 => some (Sum.inr (()))
  | xo2 :: xs, o2_0 => (rdI x1 ((o2_0 : Int))).bind fun y4 => (if ¬ (xo2.Key = y4.Key ∧ xo2.At = y4.At) then (some false).map Sum.inl else F32_l2 x1 xs (o2_0 + 1))
def F32 (x0 : (List WorkItem)) (x1 : (List WorkItem)) : Option (Bool) := (if ¬ ((x0.length : Int) = (x1.length : Int)) then some false else (((ck (0 ≤ x0.length ∧ x0.length ≤ 4294967290)).bind fun u6 => F32_l2 x1 x0 0).bind fun o2 => match o2 with | Sum.inl f => some f | Sum.inr po2 => some true))
def a32 : AFn := ⟨26, [(.tmp 4)],
 (.seq (.reg [⟨(some 4), none, .mv (kB false), [], none⟩])
 (.seq (.seq (.reg [⟨(some 6), none, .mv (.t 0), [], none⟩,
   ⟨(some 7), none, .len (.t 6), [], none⟩,
   ⟨(some 8), none, .mv (.t 1), [], none⟩,
   ⟨(some 9), none, .len (.t 8), [], none⟩,
   ⟨(some 10), none, .bin .neq (.t 7) (.t 9), [], none⟩])
 (.cond (.t 10)
 (.seq (.reg [⟨(some 4), none, .mv (kB false), [], none⟩])
 .ret)
 .skip))
 (.seq (.seq (.reg [⟨(some 5), none, .mv (kI 0), [], none⟩])
 (.sem (.block 0 (.loop (.seq (.seq (.reg [⟨(some 11), none, .mv (.t 5), [], none⟩,
   ⟨(some 12), none, .mv (.t 0), [], none⟩,
   ⟨(some 13), none, .len (.t 12), [], none⟩,
   ⟨(some 14), none, .bin .lss (.t 11) (.t 13), [], none⟩])
 (.cond (.t 14)
 .skip
 (.exit 0)))
 (.seq (.block 1 (.seq (.regd [⟨(some 17), none, .mv (.t 0), [], none⟩,
   ⟨(some 18), none, .mv (.t 5), [], none⟩,
   ⟨(some 19), none, .indexA 2 (.t 17) (.t 18), [0, 1], none⟩,
   ⟨(some 20), none, .load (some 2) (.t 19), [0, 1, 2], none⟩,
   ⟨(some 21), none, .mv (.t 1), [], none⟩,
   ⟨(some 22), none, .mv (.t 5), [], none⟩,
   ⟨(some 23), none, .indexA 2 (.t 21) (.t 22), [4, 5], none⟩,
   ⟨(some 24), none, .load (some 2) (.t 23), [4, 5, 6], none⟩,
   ⟨(some 25), none, .eqs true [(0, 2), (1, 0)] (.t 20) (.t 24), [0, 1, 2, 3, 4, 5, 6, 7], (some [])⟩])
 (.cond (.t 25)
 (.seq (.reg [⟨(some 4), none, .mv (kB false), [], none⟩])
 .ret)
 .skip)))
 (.reg [⟨(some 15), none, .mv (.t 5), [], none⟩,
   ⟨(some 16), none, .bin .add (.t 15) (kI 1), [], none⟩,
   ⟨(some 5), none, .mv (.t 16), [], none⟩])))))))
 (.seq (.reg [⟨(some 4), none, .mv (kB true), [], none⟩])
 .ret))))⟩
theorem a32_ok : afn Try.prog 32 = some a32.er := by kernel_rfl
theorem F32_ok {x0 : (List WorkItem)} {x1 : (List WorkItem)} {r : Bool} (h : F32 x0 x1 = some r) : CallD Try.prog 32 [.c (.d (.sl (x0.map eWorkItem))), .c (.d (.sl (x1.map eWorkItem)))] [] (tupV [.c (.d (.v (.bool r)))]) [] := by
  refine callS a32_ok (by simp [a32]) ?_
  rw [F32] at h
  simp only [a32, VW.down, Nat.reduceEqDiff, reduceCtorEq, Nat.reduceAdd, Nat.reduceLeDiff, Nat.reduceLT, Nat.reduceBEq, Nat.reduceSub, EE.down]
  refine condS (fun c1 => ?_) (fun c1 => ?_)
  · have h := (if_pos c1).symm.trans h
    simp only [VW.down, Nat.reduceEqDiff, reduceCtorEq, Nat.reduceAdd, Nat.reduceLeDiff, Nat.reduceLT, Nat.reduceBEq, Nat.reduceSub, EE.down]
    obtain rfl := Option.some.inj h
    exact eF []
  · have h := (if_neg c1).symm.trans h
    simp only [VW.down, Nat.reduceEqDiff, reduceCtorEq, Nat.reduceAdd, Nat.reduceLeDiff, Nat.reduceLT, Nat.reduceBEq, Nat.reduceSub, EE.down]
    obtain ⟨o2, ho, h⟩ := Option.bind_eq_some_iff.1 h
    refine cutS (fun s => ∃ po2, o2 = Sum.inr po2 ∧ s = ⟨[], []⟩) ?_ ?_
    · have h0o2 := h
      have h := ho
      clear ho
      obtain ⟨_, hk, h⟩ := Option.bind_eq_some_iff.1 h
      have hk := ck_some hk
      simp only [VW.down, Nat.reduceEqDiff, reduceCtorEq, Nat.reduceAdd, Nat.reduceLeDiff, Nat.reduceLT, Nat.reduceBEq, Nat.reduceSub, EE.down]
      refine bL (fun j s => ∃ (o2_0 : Nat), (o2_0 ≤ x0.length ∧ j = x0.length - o2_0) ∧ s = ⟨[(0, .one (.c (.d (.sl (x0.map eWorkItem))))), (1, .one (.c (.d (.sl (x1.map eWorkItem))))), (5, .one (.c (.d (.v (.int .i64 ((o2_0 : Int)))))))], []⟩ ∧ F32_l2 x1 (x0.drop o2_0) o2_0 = some o2) (x0.length - 0) [] ⟨0, ⟨hk.1, rfl⟩, rfl, h⟩ ?_
      rintro _ _ ⟨o2_0, ⟨hi, rfl⟩, rfl, h⟩
      simp only [VW.down, Nat.reduceEqDiff, reduceCtorEq, Nat.reduceAdd, Nat.reduceLeDiff, Nat.reduceLT, Nat.reduceBEq, Nat.reduceSub, EE.down]
      refine condS (fun c3 => ?_) (fun c3 => ?_)
      · obtain ⟨xo2, hxo2, hd⟩ := countY c3
        rw [hd, F32_l2] at h
        simp only [VW.down, Nat.reduceEqDiff, reduceCtorEq, Nat.reduceAdd, Nat.reduceLeDiff, Nat.reduceLT, Nat.reduceBEq, Nat.reduceSub, EE.down]
        refine t_idxF (enc := eWorkItem) (xs := x0) rfl rfl hxo2 rfl ?_
        simp only [VW.down, Nat.reduceEqDiff, reduceCtorEq, Nat.reduceAdd, Nat.reduceLeDiff, Nat.reduceLT, Nat.reduceBEq, Nat.reduceSub, EE.down]
        obtain ⟨y4, hy4, h⟩ := Option.bind_eq_some_iff.1 h
        refine t_idxF (enc := eWorkItem) (xs := x1) rfl rfl hy4 rfl ?_
        simp only [VW.down, Nat.reduceEqDiff, reduceCtorEq, Nat.reduceAdd, Nat.reduceLeDiff, Nat.reduceLT, Nat.reduceBEq, Nat.reduceSub, EE.down]
        refine condS (fun c5 => ?_) (fun c5 => ?_)
        · have h := (if_pos c5).symm.trans h
          simp only [VW.down, Nat.reduceEqDiff, reduceCtorEq, Nat.reduceAdd, Nat.reduceLeDiff, Nat.reduceLT, Nat.reduceBEq, Nat.reduceSub, EE.down]
          obtain ⟨fh0o2, hfh0o2, rfl⟩ := Option.map_eq_some_iff.1 h
          have h := hfh0o2.trans h0o2
          obtain rfl := Option.some.inj h
          exact eF []
        · have h := (if_neg c5).symm.trans h
          simp only [VW.down, Nat.reduceEqDiff, reduceCtorEq, Nat.reduceAdd, Nat.reduceLeDiff, Nat.reduceLT, Nat.reduceBEq, Nat.reduceSub, EE.down]
          rw [wrapN (by omega)]
          exact eL' (x0.length - (o2_0 + 1)) [] ⟨o2_0 + 1, ⟨by omega, rfl⟩, rfl, h⟩ (by omega)
      · rw [countN c3, F32_l2] at h
        simp only [VW.down, Nat.reduceEqDiff, reduceCtorEq, Nat.reduceAdd, Nat.reduceLeDiff, Nat.reduceLT, Nat.reduceBEq, Nat.reduceSub, EE.down]
        obtain rfl := Option.some.inj h
        exact eM [] ⟨_, rfl, rfl⟩
    · rintro _ ⟨po2, rfl, rfl⟩
      clear ho
      dsimp only at h
      simp only [VW.down, Nat.reduceEqDiff, reduceCtorEq, Nat.reduceAdd, Nat.reduceLeDiff, Nat.reduceLT, Nat.reduceBEq, Nat.reduceSub, EE.down]
      obtain rfl := Option.some.inj h
      exact eF []

/- orchestrator/orchestratorref42.Same -/
def F13 (x0 : SchedQueue) (x1 : SchedQueue) : Option (Bool) := (((F32 x0.Waiting x1.Waiting).bind fun t2 => (if t2 = true then (F32 x0.Active x1.Active).bind fun t4 => (if t4 = true then (F32 x0.Stuck x1.Stuck).bind fun t6 => (if t6 = true then (F32 x0.Backoff x1.Backoff).bind fun t8 => (if t8 = true then (F32 x0.Retries x1.Retries).bind fun t10 => (if t10 = true then some (decide (x0.Cycle = x1.Cycle)) else some false) else some false) else some false) else some false) else some false)).bind fun o1 => some o1)
def a13 : AFn := ⟨45, [(.tmp 4)],
 (.seq (.reg [⟨(some 2), none, .box (.t 0), [], none⟩,
   ⟨(some 3), none, .box (.t 1), [], none⟩,
   ⟨(some 4), none, .mv (kB false), [], none⟩])
 (.seq (.sem (.reg [⟨(some 5), none, .fieldA 0 (.t 2), [], none⟩,
   ⟨(some 6), none, .load none (.t 5), [], none⟩,
   ⟨(some 7), none, .fieldA 0 (.t 3), [], none⟩,
   ⟨(some 8), none, .load none (.t 7), [], none⟩,
   ⟨(some 9), none, .call 32 [(.t 6), (.t 8)], [], none⟩,
   ⟨(some 10), none, .mv (.t 9), [], none⟩,
   ⟨(some 11), (some (10, true)), .fieldA 1 (.t 2), [], none⟩,
   ⟨(some 12), (some (10, true)), .load none (.t 11), [], none⟩,
   ⟨(some 13), (some (10, true)), .fieldA 1 (.t 3), [], none⟩,
   ⟨(some 14), (some (10, true)), .load none (.t 13), [], none⟩,
   ⟨(some 15), (some (10, true)), .call 32 [(.t 12), (.t 14)], [], none⟩,
   ⟨(some 16), none, .pick (.t 10) (.t 15) (kB false), [], none⟩,
   ⟨(some 17), none, .mv (.t 16), [], none⟩,
   ⟨(some 18), (some (17, true)), .fieldA 2 (.t 2), [], none⟩,
   ⟨(some 19), (some (17, true)), .load none (.t 18), [], none⟩,
   ⟨(some 20), (some (17, true)), .fieldA 2 (.t 3), [], none⟩,
   ⟨(some 21), (some (17, true)), .load none (.t 20), [], none⟩,
   ⟨(some 22), (some (17, true)), .call 32 [(.t 19), (.t 21)], [], none⟩,
   ⟨(some 23), none, .pick (.t 17) (.t 22) (kB false), [], none⟩,
   ⟨(some 24), none, .mv (.t 23), [], none⟩,
   ⟨(some 25), (some (24, true)), .fieldA 3 (.t 2), [], none⟩,
   ⟨(some 26), (some (24, true)), .load none (.t 25), [], none⟩,
   ⟨(some 27), (some (24, true)), .fieldA 3 (.t 3), [], none⟩,
   ⟨(some 28), (some (24, true)), .load none (.t 27), [], none⟩,
   ⟨(some 29), (some (24, true)), .call 32 [(.t 26), (.t 28)], [], none⟩,
   ⟨(some 30), none, .pick (.t 24) (.t 29) (kB false), [], none⟩,
   ⟨(some 31), none, .mv (.t 30), [], none⟩,
   ⟨(some 32), (some (31, true)), .fieldA 4 (.t 2), [], none⟩,
   ⟨(some 33), (some (31, true)), .load none (.t 32), [], none⟩,
   ⟨(some 34), (some (31, true)), .fieldA 4 (.t 3), [], none⟩,
   ⟨(some 35), (some (31, true)), .load none (.t 34), [], none⟩,
   ⟨(some 36), (some (31, true)), .call 32 [(.t 33), (.t 35)], [], none⟩,
   ⟨(some 37), none, .pick (.t 31) (.t 36) (kB false), [], none⟩,
   ⟨(some 38), none, .mv (.t 37), [], none⟩,
   ⟨(some 39), (some (38, true)), .fieldA 5 (.t 2), [], none⟩,
   ⟨(some 40), (some (38, true)), .load none (.t 39), [], none⟩,
   ⟨(some 41), (some (38, true)), .fieldA 5 (.t 3), [], none⟩,
   ⟨(some 42), (some (38, true)), .load none (.t 41), [], none⟩,
   ⟨(some 43), (some (38, true)), .bin .eql (.t 40) (.t 42), [], none⟩,
   ⟨(some 44), none, .pick (.t 38) (.t 43) (kB false), [], none⟩,
   ⟨(some 4), none, .mv (.t 44), [], none⟩]))
 .ret))⟩
theorem a13_ok : afn Try.prog 13 = some a13.er := by kernel_rfl
theorem F13_ok {x0 : SchedQueue} {x1 : SchedQueue} {r : Bool} (h : F13 x0 x1 = some r) : CallD Try.prog 13 [.agg [.d (.sl (x0.Waiting.map eWorkItem)), .d (.sl (x0.Active.map eWorkItem)), .d (.sl (x0.Stuck.map eWorkItem)), .d (.sl (x0.Backoff.map eWorkItem)), .d (.sl (x0.Retries.map eWorkItem)), .d (.v (.int .i64 x0.Cycle))], .agg [.d (.sl (x1.Waiting.map eWorkItem)), .d (.sl (x1.Active.map eWorkItem)), .d (.sl (x1.Stuck.map eWorkItem)), .d (.sl (x1.Backoff.map eWorkItem)), .d (.sl (x1.Retries.map eWorkItem)), .d (.v (.int .i64 x1.Cycle))]] [] (tupV [.c (.d (.v (.bool r)))]) [] := by
  refine callS a13_ok (by simp [a13]) ?_
  rw [F13] at h
  simp only [a13, VW.down, Nat.reduceEqDiff, reduceCtorEq, Nat.reduceAdd, Nat.reduceLeDiff, Nat.reduceLT, Nat.reduceBEq, Nat.reduceSub, EE.down]
  obtain ⟨o1, ho, h⟩ := Option.bind_eq_some_iff.1 h
  refine cutS (fun s => s = ⟨[(4, .one (.c (.d (.v (.bool o1)))))], []⟩) ?_ ?_
  · have h := ho
    clear ho
    simp only [VW.down, Nat.reduceEqDiff, reduceCtorEq, Nat.reduceAdd, Nat.reduceLeDiff, Nat.reduceLT, Nat.reduceBEq, Nat.reduceSub, EE.down]
    obtain ⟨t2, ht2, h⟩ := Option.bind_eq_some_iff.1 h
    refine callX_n [] (F32_ok ht2) ?_ ?_ ?_ ?_ ?_ ?_
    · first | rfl | simp [nrmA, nrmC, nrm, A1.ren, C.ren, rn, List.length_set]
    · simp [liveAll, A1.live, C.live]
    · rfl
    · decide
    · exact trivial
    simp only [VW.down, Nat.reduceEqDiff, reduceCtorEq, Nat.reduceAdd, Nat.reduceLeDiff, Nat.reduceLT, Nat.reduceBEq, Nat.reduceSub, EE.down]
    refine guardSB (fun g3 => ?_) (fun g3 => ?_)
    · have h := (if_pos g3).symm.trans h
      simp only [VW.down, Nat.reduceEqDiff, reduceCtorEq, Nat.reduceAdd, Nat.reduceLeDiff, Nat.reduceLT, Nat.reduceBEq, Nat.reduceSub, EE.down]
      obtain ⟨t4, ht4, h⟩ := Option.bind_eq_some_iff.1 h
      refine callX_n [] (F32_ok ht4) ?_ ?_ ?_ ?_ ?_ ?_
      · first | rfl | simp [nrmA, nrmC, nrm, A1.ren, C.ren, rn, List.length_set]
      · simp [liveAll, A1.live, C.live]
      · rfl
      · decide
      · exact trivial
      simp only [VW.down, Nat.reduceEqDiff, reduceCtorEq, Nat.reduceAdd, Nat.reduceLeDiff, Nat.reduceLT, Nat.reduceBEq, Nat.reduceSub, EE.down]
      refine guardSB (fun g5 => ?_) (fun g5 => ?_)
      · have h := (if_pos g5).symm.trans h
        simp only [VW.down, Nat.reduceEqDiff, reduceCtorEq, Nat.reduceAdd, Nat.reduceLeDiff, Nat.reduceLT, Nat.reduceBEq, Nat.reduceSub, EE.down]
        obtain ⟨t6, ht6, h⟩ := Option.bind_eq_some_iff.1 h
        refine callX_n [] (F32_ok ht6) ?_ ?_ ?_ ?_ ?_ ?_
        · first | rfl | simp [nrmA, nrmC, nrm, A1.ren, C.ren, rn, List.length_set]
        · simp [liveAll, A1.live, C.live]
        · rfl
        · decide
        · exact trivial
        simp only [VW.down, Nat.reduceEqDiff, reduceCtorEq, Nat.reduceAdd, Nat.reduceLeDiff, Nat.reduceLT, Nat.reduceBEq, Nat.reduceSub, EE.down]
        refine guardSB (fun g7 => ?_) (fun g7 => ?_)
        · have h := (if_pos g7).symm.trans h
          simp only [VW.down, Nat.reduceEqDiff, reduceCtorEq, Nat.reduceAdd, Nat.reduceLeDiff, Nat.reduceLT, Nat.reduceBEq, Nat.reduceSub, EE.down]
          obtain ⟨t8, ht8, h⟩ := Option.bind_eq_some_iff.1 h
          refine callX_n [] (F32_ok ht8) ?_ ?_ ?_ ?_ ?_ ?_
          · first | rfl | simp [nrmA, nrmC, nrm, A1.ren, C.ren, rn, List.length_set]
          · simp [liveAll, A1.live, C.live]
          · rfl
          · decide
          · exact trivial
          simp only [VW.down, Nat.reduceEqDiff, reduceCtorEq, Nat.reduceAdd, Nat.reduceLeDiff, Nat.reduceLT, Nat.reduceBEq, Nat.reduceSub, EE.down]
          refine guardSB (fun g9 => ?_) (fun g9 => ?_)
          · have h := (if_pos g9).symm.trans h
            simp only [VW.down, Nat.reduceEqDiff, reduceCtorEq, Nat.reduceAdd, Nat.reduceLeDiff, Nat.reduceLT, Nat.reduceBEq, Nat.reduceSub, EE.down]
            obtain ⟨t10, ht10, h⟩ := Option.bind_eq_some_iff.1 h
            refine callX_n [] (F32_ok ht10) ?_ ?_ ?_ ?_ ?_ ?_
            · first | rfl | simp [nrmA, nrmC, nrm, A1.ren, C.ren, rn, List.length_set]
            · simp [liveAll, A1.live, C.live]
            · rfl
            · decide
            · exact trivial
            simp only [VW.down, Nat.reduceEqDiff, reduceCtorEq, Nat.reduceAdd, Nat.reduceLeDiff, Nat.reduceLT, Nat.reduceBEq, Nat.reduceSub, EE.down]
            refine guardSB (fun g11 => ?_) (fun g11 => ?_)
            · have h := (if_pos g11).symm.trans h
              simp only [VW.down, Nat.reduceEqDiff, reduceCtorEq, Nat.reduceAdd, Nat.reduceLeDiff, Nat.reduceLT, Nat.reduceBEq, Nat.reduceSub, EE.down]
              obtain rfl := Option.some.inj h
              exact eM [] rfl
            · have h := (if_neg g11).symm.trans h
              simp only [VW.down, Nat.reduceEqDiff, reduceCtorEq, Nat.reduceAdd, Nat.reduceLeDiff, Nat.reduceLT, Nat.reduceBEq, Nat.reduceSub, EE.down]
              obtain rfl := Option.some.inj h
              exact eM [] rfl
          · have h := (if_neg g9).symm.trans h
            simp only [VW.down, Nat.reduceEqDiff, reduceCtorEq, Nat.reduceAdd, Nat.reduceLeDiff, Nat.reduceLT, Nat.reduceBEq, Nat.reduceSub, EE.down]
            obtain rfl := Option.some.inj h
            exact eM [] rfl
        · have h := (if_neg g7).symm.trans h
          simp only [VW.down, Nat.reduceEqDiff, reduceCtorEq, Nat.reduceAdd, Nat.reduceLeDiff, Nat.reduceLT, Nat.reduceBEq, Nat.reduceSub, EE.down]
          obtain rfl := Option.some.inj h
          exact eM [] rfl
      · have h := (if_neg g5).symm.trans h
        simp only [VW.down, Nat.reduceEqDiff, reduceCtorEq, Nat.reduceAdd, Nat.reduceLeDiff, Nat.reduceLT, Nat.reduceBEq, Nat.reduceSub, EE.down]
        obtain rfl := Option.some.inj h
        exact eM [] rfl
    · have h := (if_neg g3).symm.trans h
      simp only [VW.down, Nat.reduceEqDiff, reduceCtorEq, Nat.reduceAdd, Nat.reduceLeDiff, Nat.reduceLT, Nat.reduceBEq, Nat.reduceSub, EE.down]
      obtain rfl := Option.some.inj h
      exact eM [] rfl
  · rintro _ rfl
    clear ho
    simp only [VW.down, Nat.reduceEqDiff, reduceCtorEq, Nat.reduceAdd, Nat.reduceLeDiff, Nat.reduceLT, Nat.reduceBEq, Nat.reduceSub, EE.down]
    obtain rfl := Option.some.inj h
    exact eF []

/- orchestrator/orchestratorlaw42.SchedqueuePlays -/
def F3_l6  : List Act → Nat → SchedQueue → SchedQueue → Option ((Bool) ⊕ (Unit))
  | [], o6_2, o6_0, o6_1 => some (Sum.inr (()))
  | xo6 :: xs, o6_2, o6_0, o6_1 => (F11 ((⟨(o6_0).Waiting, (o6_0).Active, (o6_0).Stuck, (o6_0).Backoff, (o6_0).Retries, (o6_0).Cycle⟩ : SchedQueue)) xo6).bind fun t8 => (F12 ((⟨(o6_1).Waiting, (o6_1).Active, (o6_1).Stuck, (o6_1).Backoff, (o6_1).Retries, (o6_1).Cycle⟩ : SchedQueue)) xo6).bind fun t9 => (((F13 ((⟨t8.1, t8.2.1, t8.2.2.1, t8.2.2.2.1, t8.2.2.2.2.1, t8.2.2.2.2.2.1⟩ : SchedQueue)) ((⟨t9.1, t9.2.1, t9.2.2.1, t9.2.2.2.1, t9.2.2.2.2.1, t9.2.2.2.2.2.1⟩ : SchedQueue))).bind fun t11 => (if (nb t11) = true then some true else (if ¬ (t8.2.2.2.2.2.2.1 = t9.2.2.2.2.2.2.1) then some true else some (((t8.2.2.2.2.2.2.2 == t9.2.2.2.2.2.2.2) != true))))).bind fun o10 => (if o10 = true then (some false).map Sum.inl else F3_l6  xs (o6_2 + 1) ((⟨t8.1, t8.2.1, t8.2.2.1, t8.2.2.2.1, t8.2.2.2.2.1, t8.2.2.2.2.2.1⟩ : SchedQueue)) ((⟨t9.1, t9.2.1, t9.2.2.1, t9.2.2.2.1, t9.2.2.2.2.1, t9.2.2.2.2.2.1⟩ : SchedQueue))))
def F3 (x0 : (List Act)) : Option (Bool) := (F7 x0).bind fun t1 => (if (nb t1) = true then (F8).bind fun t3 => some t3 else (F9).bind fun t4 => (F10).bind fun t5 => (((ck (0 ≤ x0.length ∧ x0.length ≤ 4294967290)).bind fun u15 => F3_l6 x0 0 ((⟨[], [], [], [], [], 0⟩ : SchedQueue)) ((⟨[], [], [], [], [], 0⟩ : SchedQueue))).bind fun o6 => match o6 with | Sum.inl f => some f | Sum.inr po6 => (F8).bind fun t16 => some t16))
def a3 : AFn := ⟨57, [(.tmp 2)],
 (.seq (.reg [⟨(some 2), none, .mv (kB false), [], none⟩])
 (.seq (.seq (.reg [⟨(some 13), none, .mv (.t 0), [], none⟩,
   ⟨(some 14), none, .call 7 [(.t 13)], [], none⟩,
   ⟨(some 15), none, .not (.t 14), [], none⟩])
 (.cond (.t 15)
 (.seq (.reg [⟨(some 16), none, .call 8 [], [], none⟩,
   ⟨(some 2), none, .mv (.t 16), [], none⟩])
 .ret)
 .skip))
 (.seq (.reg [⟨(some 17), none, .call 9 [], [], none⟩,
   ⟨(some 18), none, .call 10 [], [], none⟩,
   ⟨(some 3), none, .zbox [.d (.v (.slice none 0 0)), .d (.v (.slice none 0 0)), .d (.v (.slice none 0 0)), .d (.v (.slice none 0 0)), .d (.v (.slice none 0 0)), .d (.v (.int .i64 0))], [], none⟩,
   ⟨(some 4), none, .zbox [.d (.v (.slice none 0 0)), .d (.v (.slice none 0 0)), .d (.v (.slice none 0 0)), .d (.v (.slice none 0 0)), .d (.v (.slice none 0 0)), .d (.v (.int .i64 0))], [], none⟩,
   ⟨none, none, .store 6 (.t 3) (.t 17), [], none⟩,
   ⟨none, none, .store 6 (.t 4) (.t 18), [], none⟩])
 (.seq (.seq (.reg [⟨(some 19), none, .mv (.t 0), [], none⟩,
   ⟨(some 20), none, .len (.t 19), [], none⟩,
   ⟨(some 21), none, .mv (kI 0), [], none⟩])
 (.sem (.block 0 (.loop (.seq (.reg [⟨(some 22), none, .bin .lss (.t 21) (.t 20), [], none⟩])
 (.seq (.cond (.t 22)
 .skip
 (.exit 0))
 (.seq (.block 1 (.seq (.reg [⟨(some 23), none, .indexA 4 (.t 19) (.t 21), [], none⟩,
   ⟨(some 24), none, .load (some 4) (.t 23), [], none⟩,
   ⟨(some 6), none, .zbox [.d (.v (.int .u8 0)), .d (.v (.string ⟨#[]⟩)), .d (.v (.int .i64 0)), .d (.v (.int .i64 0))], [], none⟩,
   ⟨none, none, .store 4 (.t 6) (.t 24), [], none⟩])
 (.seq (.reg [⟨(some 26), none, .load (some 6) (.t 3), [], none⟩,
   ⟨(some 27), none, .load (some 4) (.t 6), [], none⟩,
   ⟨(some 28), none, .call 11 [(.t 26), (.t 27)], [], none⟩,
   ⟨(some 25), none, .mv (.t 28), [], none⟩,
   ⟨(some 29), none, .ext (.t 25) 0, [], none⟩,
   ⟨(some 30), none, .ext (.t 25) 1, [], none⟩,
   ⟨(some 31), none, .ext (.t 25) 2, [], none⟩,
   ⟨(some 7), none, .zbox [.d (.v (.slice none 0 0)), .d (.v (.slice none 0 0)), .d (.v (.slice none 0 0)), .d (.v (.slice none 0 0)), .d (.v (.slice none 0 0)), .d (.v (.int .i64 0))], [], none⟩,
   ⟨none, none, .store 6 (.t 7) (.t 29), [], none⟩,
   ⟨(some 8), none, .mv (.t 30), [], none⟩,
   ⟨(some 9), none, .mv (.t 31), [], none⟩])
 (.seq (.reg [⟨(some 33), none, .load (some 6) (.t 4), [], none⟩,
   ⟨(some 34), none, .load (some 4) (.t 6), [], none⟩,
   ⟨(some 35), none, .call 12 [(.t 33), (.t 34)], [], none⟩,
   ⟨(some 32), none, .mv (.t 35), [], none⟩,
   ⟨(some 36), none, .ext (.t 32) 0, [], none⟩,
   ⟨(some 37), none, .ext (.t 32) 1, [], none⟩,
   ⟨(some 38), none, .ext (.t 32) 2, [], none⟩,
   ⟨(some 10), none, .zbox [.d (.v (.slice none 0 0)), .d (.v (.slice none 0 0)), .d (.v (.slice none 0 0)), .d (.v (.slice none 0 0)), .d (.v (.slice none 0 0)), .d (.v (.int .i64 0))], [], none⟩,
   ⟨none, none, .store 6 (.t 10) (.t 36), [], none⟩,
   ⟨(some 11), none, .mv (.t 37), [], none⟩,
   ⟨(some 12), none, .mv (.t 38), [], none⟩])
 (.seq (.seq (.sem (.reg [⟨(some 39), none, .load (some 6) (.t 7), [], none⟩,
   ⟨(some 40), none, .load (some 6) (.t 10), [], none⟩,
   ⟨(some 41), none, .call 13 [(.t 39), (.t 40)], [], none⟩,
   ⟨(some 42), none, .not (.t 41), [], none⟩,
   ⟨(some 43), none, .mv (.t 42), [], none⟩,
   ⟨(some 44), (some (43, false)), .mv (.t 8), [], none⟩,
   ⟨(some 45), (some (43, false)), .mv (.t 11), [], none⟩,
   ⟨(some 46), (some (43, false)), .bin .neq (.t 44) (.t 45), [], none⟩,
   ⟨(some 47), none, .pick (.t 43) (kB true) (.t 46), [], none⟩,
   ⟨(some 48), none, .mv (.t 47), [], none⟩,
   ⟨(some 49), (some (48, false)), .mv (.t 9), [], none⟩,
   ⟨(some 50), (some (48, false)), .mv (.t 12), [], none⟩,
   ⟨(some 51), (some (48, false)), .beq true (.t 49) (.t 50), [], none⟩,
   ⟨(some 52), none, .pick (.t 48) (kB true) (.t 51), [], none⟩]))
 (.cond (.t 52)
 (.seq (.reg [⟨(some 2), none, .mv (kB false), [], none⟩])
 .ret)
 .skip))
 (.regd [⟨(some 53), none, .load (some 6) (.t 7), [], none⟩,
   ⟨(some 54), none, .load (some 6) (.t 10), [], none⟩,
   ⟨none, none, .store 6 (.t 3) (.t 53), [0], (some [10])⟩,
   ⟨none, none, .store 6 (.t 4) (.t 54), [0, 1, 2], (some [])⟩]))))))
 (.reg [⟨(some 55), none, .bin .add (.t 21) (kI 1), [], none⟩,
   ⟨(some 21), none, .mv (.t 55), [], none⟩]))))))))
 (.seq (.reg [⟨(some 56), none, .call 8 [], [], none⟩,
   ⟨(some 2), none, .mv (.t 56), [], none⟩])
 .ret)))))⟩
theorem a3_ok : afn Try.prog 3 = some a3.er := by kernel_rfl
theorem F3_ok {x0 : (List Act)} {r : Bool} (h : F3 x0 = some r) : CallD Try.prog 3 [.c (.d (.sl (x0.map eAct)))] [] (tupV [.c (.d (.v (.bool r)))]) [] := by
  refine callS a3_ok (by simp [a3]) ?_
  rw [F3] at h
  simp only [a3, VW.down, Nat.reduceEqDiff, reduceCtorEq, Nat.reduceAdd, Nat.reduceLeDiff, Nat.reduceLT, Nat.reduceBEq, Nat.reduceSub, EE.down]
  obtain ⟨t1, ht1, h⟩ := Option.bind_eq_some_iff.1 h
  refine callX_n [] (F7_ok ht1) ?_ ?_ ?_ ?_ ?_ ?_
  · first | rfl | simp [nrmA, nrmC, nrm, A1.ren, C.ren, rn, List.length_set]
  · simp [liveAll, A1.live, C.live]
  · rfl
  · decide
  · exact trivial
  simp only [VW.down, Nat.reduceEqDiff, reduceCtorEq, Nat.reduceAdd, Nat.reduceLeDiff, Nat.reduceLT, Nat.reduceBEq, Nat.reduceSub, EE.down]
  refine condB (fun c2 => ?_) (fun c2 => ?_)
  · have h := (if_pos c2).symm.trans h
    simp only [VW.down, Nat.reduceEqDiff, reduceCtorEq, Nat.reduceAdd, Nat.reduceLeDiff, Nat.reduceLT, Nat.reduceBEq, Nat.reduceSub, EE.down]
    obtain ⟨t3, ht3, h⟩ := Option.bind_eq_some_iff.1 h
    refine callX_n [] (F8_ok ht3) ?_ ?_ ?_ ?_ ?_ ?_
    · first | rfl | simp [nrmA, nrmC, nrm, A1.ren, C.ren, rn, List.length_set]
    · simp [liveAll, A1.live, C.live]
    · rfl
    · decide
    · exact trivial
    simp only [VW.down, Nat.reduceEqDiff, reduceCtorEq, Nat.reduceAdd, Nat.reduceLeDiff, Nat.reduceLT, Nat.reduceBEq, Nat.reduceSub, EE.down]
    obtain rfl := Option.some.inj h
    exact eF []
  · have h := (if_neg c2).symm.trans h
    simp only [VW.down, Nat.reduceEqDiff, reduceCtorEq, Nat.reduceAdd, Nat.reduceLeDiff, Nat.reduceLT, Nat.reduceBEq, Nat.reduceSub, EE.down]
    obtain ⟨t4, ht4, h⟩ := Option.bind_eq_some_iff.1 h
    refine callX_n [] (F9_ok ht4) ?_ ?_ ?_ ?_ ?_ ?_
    · first | rfl | simp [nrmA, nrmC, nrm, A1.ren, C.ren, rn, List.length_set]
    · simp [liveAll, A1.live, C.live]
    · rfl
    · decide
    · exact trivial
    simp only [VW.down, Nat.reduceEqDiff, reduceCtorEq, Nat.reduceAdd, Nat.reduceLeDiff, Nat.reduceLT, Nat.reduceBEq, Nat.reduceSub, EE.down]
    obtain ⟨t5, ht5, h⟩ := Option.bind_eq_some_iff.1 h
    refine callX_n [] (F10_ok ht5) ?_ ?_ ?_ ?_ ?_ ?_
    · first | rfl | simp [nrmA, nrmC, nrm, A1.ren, C.ren, rn, List.length_set]
    · simp [liveAll, A1.live, C.live]
    · rfl
    · decide
    · exact trivial
    simp only [VW.down, Nat.reduceEqDiff, reduceCtorEq, Nat.reduceAdd, Nat.reduceLeDiff, Nat.reduceLT, Nat.reduceBEq, Nat.reduceSub, EE.down]
    obtain ⟨o6, ho, h⟩ := Option.bind_eq_some_iff.1 h
    refine cutS (fun s => ∃ po6, o6 = Sum.inr po6 ∧ s = ⟨[], []⟩) ?_ ?_
    · have h0o6 := h
      have h := ho
      clear ho
      obtain ⟨_, hk, h⟩ := Option.bind_eq_some_iff.1 h
      have hk := ck_some hk
      simp only [VW.down, Nat.reduceEqDiff, reduceCtorEq, Nat.reduceAdd, Nat.reduceLeDiff, Nat.reduceLT, Nat.reduceBEq, Nat.reduceSub, EE.down]
      refine bL (fun j s => ∃ (o6_2 : Nat) (o6_0 : SchedQueue) (o6_1 : SchedQueue), (o6_2 ≤ x0.length ∧ j = x0.length - o6_2) ∧ s = ⟨[(3, .one (.c (.pt 0 0))), (4, .one (.c (.pt 1 0))), (19, .one (.c (.d (.sl (x0.map eAct))))), (20, .one (.c (.d (.v (.int .i64 ((x0.length : Int))))))), (21, .one (.c (.d (.v (.int .i64 ((o6_2 : Int)))))))], [some (.box [.d (.sl (((o6_0).Waiting).map eWorkItem)), .d (.sl (((o6_0).Active).map eWorkItem)), .d (.sl (((o6_0).Stuck).map eWorkItem)), .d (.sl (((o6_0).Backoff).map eWorkItem)), .d (.sl (((o6_0).Retries).map eWorkItem)), .d (.v (.int .i64 ((o6_0).Cycle)))]), some (.box [.d (.sl (((o6_1).Waiting).map eWorkItem)), .d (.sl (((o6_1).Active).map eWorkItem)), .d (.sl (((o6_1).Stuck).map eWorkItem)), .d (.sl (((o6_1).Backoff).map eWorkItem)), .d (.sl (((o6_1).Retries).map eWorkItem)), .d (.v (.int .i64 ((o6_1).Cycle)))])]⟩ ∧ F3_l6 (x0.drop o6_2) o6_2 o6_0 o6_1 = some o6) (x0.length - 0) [some 0, some 1] ⟨0, (⟨[], [], [], [], [], 0⟩ : SchedQueue), (⟨[], [], [], [], [], 0⟩ : SchedQueue), ⟨hk.1, rfl⟩, rfl, h⟩ ?_
      rintro _ _ ⟨o6_2, o6_0, o6_1, ⟨hi, rfl⟩, rfl, h⟩
      simp only [VW.down, Nat.reduceEqDiff, reduceCtorEq, Nat.reduceAdd, Nat.reduceLeDiff, Nat.reduceLT, Nat.reduceBEq, Nat.reduceSub, EE.down]
      refine condS (fun c7 => ?_) (fun c7 => ?_)
      · obtain ⟨xo6, hxo6, hd⟩ := countY c7
        rw [hd, F3_l6] at h
        simp only [VW.down, Nat.reduceEqDiff, reduceCtorEq, Nat.reduceAdd, Nat.reduceLeDiff, Nat.reduceLT, Nat.reduceBEq, Nat.reduceSub, EE.down]
        refine t_idxF (enc := eAct) (xs := x0) rfl rfl hxo6 rfl ?_
        simp only [VW.down, Nat.reduceEqDiff, reduceCtorEq, Nat.reduceAdd, Nat.reduceLeDiff, Nat.reduceLT, Nat.reduceBEq, Nat.reduceSub, EE.down]
        obtain ⟨t8, ht8, h⟩ := Option.bind_eq_some_iff.1 h
        refine callX_n [] (F11_ok ht8) ?_ ?_ ?_ ?_ ?_ ?_
        · first | rfl | simp [nrmA, nrmC, nrm, A1.ren, C.ren, rn, List.length_set]
        · simp [liveAll, A1.live, C.live]
        · rfl
        · decide
        · exact trivial
        simp only [VW.down, Nat.reduceEqDiff, reduceCtorEq, Nat.reduceAdd, Nat.reduceLeDiff, Nat.reduceLT, Nat.reduceBEq, Nat.reduceSub, EE.down]
        obtain ⟨t9, ht9, h⟩ := Option.bind_eq_some_iff.1 h
        refine callX_n [] (F12_ok ht9) ?_ ?_ ?_ ?_ ?_ ?_
        · first | rfl | simp [nrmA, nrmC, nrm, A1.ren, C.ren, rn, List.length_set]
        · simp [liveAll, A1.live, C.live]
        · rfl
        · decide
        · exact trivial
        simp only [VW.down, Nat.reduceEqDiff, reduceCtorEq, Nat.reduceAdd, Nat.reduceLeDiff, Nat.reduceLT, Nat.reduceBEq, Nat.reduceSub, EE.down]
        obtain ⟨o10, ho, h⟩ := Option.bind_eq_some_iff.1 h
        refine cutS (fun s => s = ⟨[(3, .one (.c (.pt 0 0))), (4, .one (.c (.pt 1 0))), (7, .one (.c (.pt 2 0))), (10, .one (.c (.pt 3 0))), (19, .one (.c (.d (.sl (x0.map eAct))))), (20, .one (.c (.d (.v (.int .i64 ((x0.length : Int))))))), (21, .one (.c (.d (.v (.int .i64 ((o6_2 : Int))))))), (52, .one (.c (.d (.v (.bool o10)))))], [some (.box [.d (.sl (((o6_0).Waiting).map eWorkItem)), .d (.sl (((o6_0).Active).map eWorkItem)), .d (.sl (((o6_0).Stuck).map eWorkItem)), .d (.sl (((o6_0).Backoff).map eWorkItem)), .d (.sl (((o6_0).Retries).map eWorkItem)), .d (.v (.int .i64 ((o6_0).Cycle)))]), some (.box [.d (.sl (((o6_1).Waiting).map eWorkItem)), .d (.sl (((o6_1).Active).map eWorkItem)), .d (.sl (((o6_1).Stuck).map eWorkItem)), .d (.sl (((o6_1).Backoff).map eWorkItem)), .d (.sl (((o6_1).Retries).map eWorkItem)), .d (.v (.int .i64 ((o6_1).Cycle)))]), some (.box [.d (.sl (t8.1.map eWorkItem)), .d (.sl (t8.2.1.map eWorkItem)), .d (.sl (t8.2.2.1.map eWorkItem)), .d (.sl (t8.2.2.2.1.map eWorkItem)), .d (.sl (t8.2.2.2.2.1.map eWorkItem)), .d (.v (.int .i64 t8.2.2.2.2.2.1))]), some (.box [.d (.sl (t9.1.map eWorkItem)), .d (.sl (t9.2.1.map eWorkItem)), .d (.sl (t9.2.2.1.map eWorkItem)), .d (.sl (t9.2.2.2.1.map eWorkItem)), .d (.sl (t9.2.2.2.2.1.map eWorkItem)), .d (.v (.int .i64 t9.2.2.2.2.2.1))])]⟩) ?_ ?_
        · have h := ho
          clear ho
          simp only [VW.down, Nat.reduceEqDiff, reduceCtorEq, Nat.reduceAdd, Nat.reduceLeDiff, Nat.reduceLT, Nat.reduceBEq, Nat.reduceSub, EE.down]
          obtain ⟨t11, ht11, h⟩ := Option.bind_eq_some_iff.1 h
          refine callX_n [] (F13_ok ht11) ?_ ?_ ?_ ?_ ?_ ?_
          · first | rfl | simp [nrmA, nrmC, nrm, A1.ren, C.ren, rn, List.length_set]
          · simp [liveAll, A1.live, C.live]
          · rfl
          · decide
          · exact trivial
          simp only [VW.down, Nat.reduceEqDiff, reduceCtorEq, Nat.reduceAdd, Nat.reduceLeDiff, Nat.reduceLT, Nat.reduceBEq, Nat.reduceSub, EE.down]
          refine guardSB (fun g12 => ?_) (fun g12 => ?_)
          · have h := (if_pos g12).symm.trans h
            simp only [VW.down, Nat.reduceEqDiff, reduceCtorEq, Nat.reduceAdd, Nat.reduceLeDiff, Nat.reduceLT, Nat.reduceBEq, Nat.reduceSub, EE.down]
            obtain rfl := Option.some.inj h
            exact eM [some 0, some 1, some 3, some 4] rfl
          · have h := (if_neg g12).symm.trans h
            simp only [VW.down, Nat.reduceEqDiff, reduceCtorEq, Nat.reduceAdd, Nat.reduceLeDiff, Nat.reduceLT, Nat.reduceBEq, Nat.reduceSub, EE.down]
            refine guardS (fun g13 => ?_) (fun g13 => ?_)
            · have h := (if_pos g13).symm.trans h
              simp only [VW.down, Nat.reduceEqDiff, reduceCtorEq, Nat.reduceAdd, Nat.reduceLeDiff, Nat.reduceLT, Nat.reduceBEq, Nat.reduceSub, EE.down]
              obtain rfl := Option.some.inj h
              exact eM [some 0, some 1, some 3, some 4] rfl
            · have h := (if_neg g13).symm.trans h
              simp only [VW.down, Nat.reduceEqDiff, reduceCtorEq, Nat.reduceAdd, Nat.reduceLeDiff, Nat.reduceLT, Nat.reduceBEq, Nat.reduceSub, EE.down]
              obtain rfl := Option.some.inj h
              exact eM [some 0, some 1, some 3, some 4] rfl
        · rintro _ rfl
          clear ho
          simp only [VW.down, Nat.reduceEqDiff, reduceCtorEq, Nat.reduceAdd, Nat.reduceLeDiff, Nat.reduceLT, Nat.reduceBEq, Nat.reduceSub, EE.down]
          refine condB (fun c14 => ?_) (fun c14 => ?_)
          · have h := (if_pos c14).symm.trans h
            simp only [VW.down, Nat.reduceEqDiff, reduceCtorEq, Nat.reduceAdd, Nat.reduceLeDiff, Nat.reduceLT, Nat.reduceBEq, Nat.reduceSub, EE.down]
            obtain ⟨fh0o6, hfh0o6, rfl⟩ := Option.map_eq_some_iff.1 h
            have h := hfh0o6.trans h0o6
            obtain rfl := Option.some.inj h
            exact eF []
          · have h := (if_neg c14).symm.trans h
            simp only [VW.down, Nat.reduceEqDiff, reduceCtorEq, Nat.reduceAdd, Nat.reduceLeDiff, Nat.reduceLT, Nat.reduceBEq, Nat.reduceSub, EE.down]
            rw [wrapN (by omega)]
            exact eL' (x0.length - (o6_2 + 1)) [some 0, some 1] ⟨o6_2 + 1, (⟨t8.1, t8.2.1, t8.2.2.1, t8.2.2.2.1, t8.2.2.2.2.1, t8.2.2.2.2.2.1⟩ : SchedQueue), (⟨t9.1, t9.2.1, t9.2.2.1, t9.2.2.2.1, t9.2.2.2.2.1, t9.2.2.2.2.2.1⟩ : SchedQueue), ⟨by omega, rfl⟩, rfl, h⟩ (by omega)
      · rw [countN c7, F3_l6] at h
        simp only [VW.down, Nat.reduceEqDiff, reduceCtorEq, Nat.reduceAdd, Nat.reduceLeDiff, Nat.reduceLT, Nat.reduceBEq, Nat.reduceSub, EE.down]
        obtain rfl := Option.some.inj h
        exact eM [] ⟨_, rfl, rfl⟩
    · rintro _ ⟨po6, rfl, rfl⟩
      clear ho
      dsimp only at h
      simp only [VW.down, Nat.reduceEqDiff, reduceCtorEq, Nat.reduceAdd, Nat.reduceLeDiff, Nat.reduceLT, Nat.reduceBEq, Nat.reduceSub, EE.down]
      obtain ⟨t16, ht16, h⟩ := Option.bind_eq_some_iff.1 h
      refine callX_n [] (F8_ok ht16) ?_ ?_ ?_ ?_ ?_ ?_
      · first | rfl | simp [nrmA, nrmC, nrm, A1.ren, C.ren, rn, List.length_set]
      · simp [liveAll, A1.live, C.live]
      · rfl
      · decide
      · exact trivial
      simp only [VW.down, Nat.reduceEqDiff, reduceCtorEq, Nat.reduceAdd, Nat.reduceLeDiff, Nat.reduceLT, Nat.reduceBEq, Nat.reduceSub, EE.down]
      obtain rfl := Option.some.inj h
      exact eF []

/- orchestrator/orchestratorlaw42.count -/
def F20_l1 (x1 : ByteArray) : List WorkItem → Nat → Int → Option (Int)
  | [], o1_1, o1_0 => some o1_0
  | xo1 :: xs, o1_1, o1_0 => (((if xo1.Key = x1 then some ((IntKind.i64.wrap (o1_0 + 1))) else some o1_0)).bind fun o3 => F20_l1 x1 xs (o1_1 + 1) o3)
def F20 (x0 : (List WorkItem)) (x1 : ByteArray) : Option (Int) := (((ck (0 ≤ x0.length ∧ x0.length ≤ 4294967290)).bind fun u5 => F20_l1 x1 x0 0 0).bind fun o1 => some o1)
def a20 : AFn := ⟨22, [(.tmp 4)],
 (.seq (.reg [⟨(some 4), none, .mv (kI 0), [], none⟩])
 (.seq (.reg [⟨(some 5), none, .mv (kI 0), [], none⟩])
 (.seq (.seq (.reg [⟨(some 8), none, .mv (.t 0), [], none⟩,
   ⟨(some 9), none, .len (.t 8), [], none⟩,
   ⟨(some 10), none, .mv (kI 0), [], none⟩])
 (.sem (.block 0 (.loop (.seq (.reg [⟨(some 11), none, .bin .lss (.t 10) (.t 9), [], none⟩])
 (.seq (.cond (.t 11)
 .skip
 (.exit 0))
 (.seq (.sem (.block 1 (.seq (.reg [⟨(some 12), none, .indexA 2 (.t 8) (.t 10), [], none⟩,
   ⟨(some 13), none, .load (some 2) (.t 12), [], none⟩,
   ⟨(some 7), none, .zbox [.d (.v (.string ⟨#[]⟩)), .d (.v (.int .i64 0))], [], none⟩,
   ⟨none, none, .store 2 (.t 7) (.t 13), [], none⟩])
 (.seq (.reg [⟨(some 14), none, .fieldA 0 (.t 7), [], none⟩,
   ⟨(some 15), none, .load none (.t 14), [], none⟩,
   ⟨(some 16), none, .mv (.t 1), [], none⟩,
   ⟨(some 17), none, .bin .eql (.t 15) (.t 16), [], none⟩])
 (.cond (.t 17)
 (.reg [⟨(some 18), none, .mv (.t 5), [], none⟩,
   ⟨(some 19), none, .bin .add (.t 18) (kI 1), [], none⟩,
   ⟨(some 5), none, .mv (.t 19), [], none⟩])
 .skip)))))
 (.reg [⟨(some 20), none, .bin .add (.t 10) (kI 1), [], none⟩,
   ⟨(some 10), none, .mv (.t 20), [], none⟩]))))))))
 (.seq (.reg [⟨(some 21), none, .mv (.t 5), [], none⟩,
   ⟨(some 4), none, .mv (.t 21), [], none⟩])
 .ret))))⟩
theorem a20_ok : afn Try.prog 20 = some a20.er := by kernel_rfl
theorem F20_ok {x0 : (List WorkItem)} {x1 : ByteArray} {r : Int} (h : F20 x0 x1 = some r) : CallD Try.prog 20 [.c (.d (.sl (x0.map eWorkItem))), .c (.d (.v (.string x1)))] [] (tupV [.c (.d (.v (.int .i64 r)))]) [] := by
  refine callS a20_ok (by simp [a20]) ?_
  rw [F20] at h
  simp only [a20, VW.down, Nat.reduceEqDiff, reduceCtorEq, Nat.reduceAdd, Nat.reduceLeDiff, Nat.reduceLT, Nat.reduceBEq, Nat.reduceSub, EE.down]
  obtain ⟨o1, ho, h⟩ := Option.bind_eq_some_iff.1 h
  refine cutS (fun s => s = ⟨[(5, .one (.c (.d (.v (.int .i64 o1)))))], []⟩) ?_ ?_
  · have h := ho
    clear ho
    obtain ⟨_, hk, h⟩ := Option.bind_eq_some_iff.1 h
    have hk := ck_some hk
    simp only [VW.down, Nat.reduceEqDiff, reduceCtorEq, Nat.reduceAdd, Nat.reduceLeDiff, Nat.reduceLT, Nat.reduceBEq, Nat.reduceSub, EE.down]
    refine bL (fun j s => ∃ (o1_1 : Nat) (o1_0 : Int), (o1_1 ≤ x0.length ∧ j = x0.length - o1_1) ∧ s = ⟨[(1, .one (.c (.d (.v (.string x1))))), (5, .one (.c (.d (.v (.int .i64 o1_0))))), (8, .one (.c (.d (.sl (x0.map eWorkItem))))), (9, .one (.c (.d (.v (.int .i64 ((x0.length : Int))))))), (10, .one (.c (.d (.v (.int .i64 ((o1_1 : Int)))))))], []⟩ ∧ F20_l1 x1 (x0.drop o1_1) o1_1 o1_0 = some o1) (x0.length - 0) [] ⟨0, 0, ⟨hk.1, rfl⟩, rfl, h⟩ ?_
    rintro _ _ ⟨o1_1, o1_0, ⟨hi, rfl⟩, rfl, h⟩
    simp only [VW.down, Nat.reduceEqDiff, reduceCtorEq, Nat.reduceAdd, Nat.reduceLeDiff, Nat.reduceLT, Nat.reduceBEq, Nat.reduceSub, EE.down]
    refine condS (fun c2 => ?_) (fun c2 => ?_)
    · obtain ⟨xo1, hxo1, hd⟩ := countY c2
      rw [hd, F20_l1] at h
      simp only [VW.down, Nat.reduceEqDiff, reduceCtorEq, Nat.reduceAdd, Nat.reduceLeDiff, Nat.reduceLT, Nat.reduceBEq, Nat.reduceSub, EE.down]
      obtain ⟨o3, ho, h⟩ := Option.bind_eq_some_iff.1 h
      refine cutS (fun s => s = ⟨[(1, .one (.c (.d (.v (.string x1))))), (5, .one (.c (.d (.v (.int .i64 o3))))), (8, .one (.c (.d (.sl (x0.map eWorkItem))))), (9, .one (.c (.d (.v (.int .i64 ((x0.length : Int))))))), (10, .one (.c (.d (.v (.int .i64 ((o1_1 : Int)))))))], []⟩) ?_ ?_
      · have h := ho
        clear ho
        simp only [VW.down, Nat.reduceEqDiff, reduceCtorEq, Nat.reduceAdd, Nat.reduceLeDiff, Nat.reduceLT, Nat.reduceBEq, Nat.reduceSub, EE.down]
        refine t_idxF (enc := eWorkItem) (xs := x0) rfl rfl hxo1 rfl ?_
        simp only [VW.down, Nat.reduceEqDiff, reduceCtorEq, Nat.reduceAdd, Nat.reduceLeDiff, Nat.reduceLT, Nat.reduceBEq, Nat.reduceSub, EE.down]
        refine condS (fun c4 => ?_) (fun c4 => ?_)
        · have h := (if_pos c4).symm.trans h
          simp only [VW.down, Nat.reduceEqDiff, reduceCtorEq, Nat.reduceAdd, Nat.reduceLeDiff, Nat.reduceLT, Nat.reduceBEq, Nat.reduceSub, EE.down]
          obtain rfl := Option.some.inj h
          exact eM [] rfl
        · have h := (if_neg c4).symm.trans h
          simp only [VW.down, Nat.reduceEqDiff, reduceCtorEq, Nat.reduceAdd, Nat.reduceLeDiff, Nat.reduceLT, Nat.reduceBEq, Nat.reduceSub, EE.down]
          obtain rfl := Option.some.inj h
          exact eM [] rfl
      · rintro _ rfl
        clear ho
        simp only [VW.down, Nat.reduceEqDiff, reduceCtorEq, Nat.reduceAdd, Nat.reduceLeDiff, Nat.reduceLT, Nat.reduceBEq, Nat.reduceSub, EE.down]
        rw [wrapN (by omega)]
        exact eL' (x0.length - (o1_1 + 1)) [] ⟨o1_1 + 1, o3, ⟨by omega, rfl⟩, rfl, h⟩ (by omega)
    · rw [countN c2, F20_l1] at h
      simp only [VW.down, Nat.reduceEqDiff, reduceCtorEq, Nat.reduceAdd, Nat.reduceLeDiff, Nat.reduceLT, Nat.reduceBEq, Nat.reduceSub, EE.down]
      obtain rfl := Option.some.inj h
      exact eM [] rfl
  · rintro _ rfl
    clear ho
    simp only [VW.down, Nat.reduceEqDiff, reduceCtorEq, Nat.reduceAdd, Nat.reduceLeDiff, Nat.reduceLT, Nat.reduceBEq, Nat.reduceSub, EE.down]
    obtain rfl := Option.some.inj h
    exact eF []

/- orchestrator/orchestratorlaw42.where -/
def F14 (x0 : SchedQueue) (x1 : ByteArray) : Option (Int) := (F20 x0.Active x1).bind fun t1 => (F20 x0.Stuck x1).bind fun t2 => (F20 x0.Backoff x1).bind fun t3 => some ((IntKind.i64.wrap (((IntKind.i64.wrap (t1 + t2))) + t3)))
def a14 : AFn := ⟨19, [(.tmp 4)],
 (.seq (.reg [⟨(some 2), none, .box (.t 0), [], none⟩,
   ⟨(some 4), none, .mv (kI 0), [], none⟩])
 (.seq (.regd [⟨(some 5), none, .fieldA 1 (.t 2), [], none⟩,
   ⟨(some 6), none, .load none (.t 5), [0], none⟩,
   ⟨(some 7), none, .mv (.t 1), [], none⟩,
   ⟨(some 8), none, .call 20 [(.t 6), (.t 7)], [0, 1, 2], none⟩,
   ⟨(some 9), none, .fieldA 2 (.t 2), [], none⟩,
   ⟨(some 10), none, .load none (.t 9), [4], none⟩,
   ⟨(some 11), none, .mv (.t 1), [], none⟩,
   ⟨(some 12), none, .call 20 [(.t 10), (.t 11)], [0, 1, 2, 3, 4, 5, 6], none⟩,
   ⟨(some 13), none, .bin .add (.t 8) (.t 12), [0, 1, 2, 3, 4, 5, 6, 7], none⟩,
   ⟨(some 14), none, .fieldA 3 (.t 2), [], none⟩,
   ⟨(some 15), none, .load none (.t 14), [9], none⟩,
   ⟨(some 16), none, .mv (.t 1), [], none⟩,
   ⟨(some 17), none, .call 20 [(.t 15), (.t 16)], [0, 1, 2, 3, 4, 5, 6, 7, 9, 10, 11], (some [])⟩,
   ⟨(some 18), none, .bin .add (.t 13) (.t 17), [0, 1, 2, 3, 4, 5, 6, 7, 8, 9, 10, 11, 12], none⟩,
   ⟨(some 4), none, .mv (.t 18), [0, 1, 2, 3, 4, 5, 6, 7, 8, 9, 10, 11, 12, 13], none⟩])
 .ret))⟩
theorem a14_ok : afn Try.prog 14 = some a14.er := by kernel_rfl
theorem F14_ok {x0 : SchedQueue} {x1 : ByteArray} {r : Int} (h : F14 x0 x1 = some r) : CallD Try.prog 14 [.agg [.d (.sl (x0.Waiting.map eWorkItem)), .d (.sl (x0.Active.map eWorkItem)), .d (.sl (x0.Stuck.map eWorkItem)), .d (.sl (x0.Backoff.map eWorkItem)), .d (.sl (x0.Retries.map eWorkItem)), .d (.v (.int .i64 x0.Cycle))], .c (.d (.v (.string x1)))] [] (tupV [.c (.d (.v (.int .i64 r)))]) [] := by
  refine callS a14_ok (by simp [a14]) ?_
  rw [F14] at h
  simp only [a14, VW.down, Nat.reduceEqDiff, reduceCtorEq, Nat.reduceAdd, Nat.reduceLeDiff, Nat.reduceLT, Nat.reduceBEq, Nat.reduceSub, EE.down]
  obtain ⟨t1, ht1, h⟩ := Option.bind_eq_some_iff.1 h
  refine callX_n [] (F20_ok ht1) ?_ ?_ ?_ ?_ ?_ ?_
  · first | rfl | simp [nrmA, nrmC, nrm, A1.ren, C.ren, rn, List.length_set]
  · simp [liveAll, A1.live, C.live]
  · rfl
  · decide
  · exact trivial
  simp only [VW.down, Nat.reduceEqDiff, reduceCtorEq, Nat.reduceAdd, Nat.reduceLeDiff, Nat.reduceLT, Nat.reduceBEq, Nat.reduceSub, EE.down]
  obtain ⟨t2, ht2, h⟩ := Option.bind_eq_some_iff.1 h
  refine callX_n [] (F20_ok ht2) ?_ ?_ ?_ ?_ ?_ ?_
  · first | rfl | simp [nrmA, nrmC, nrm, A1.ren, C.ren, rn, List.length_set]
  · simp [liveAll, A1.live, C.live]
  · rfl
  · decide
  · exact trivial
  simp only [VW.down, Nat.reduceEqDiff, reduceCtorEq, Nat.reduceAdd, Nat.reduceLeDiff, Nat.reduceLT, Nat.reduceBEq, Nat.reduceSub, EE.down]
  obtain ⟨t3, ht3, h⟩ := Option.bind_eq_some_iff.1 h
  refine callX_n [] (F20_ok ht3) ?_ ?_ ?_ ?_ ?_ ?_
  · first | rfl | simp [nrmA, nrmC, nrm, A1.ren, C.ren, rn, List.length_set]
  · simp [liveAll, A1.live, C.live]
  · rfl
  · decide
  · exact trivial
  simp only [VW.down, Nat.reduceEqDiff, reduceCtorEq, Nat.reduceAdd, Nat.reduceLeDiff, Nat.reduceLT, Nat.reduceBEq, Nat.reduceSub, EE.down]
  obtain rfl := Option.some.inj h
  exact eF []

/- orchestrator/orchestratorlaw42.SchedqueueOnce -/
def F4_l7 (x1 : ByteArray) : List Act → Nat → SchedQueue → Bool → Option ((Bool) ⊕ (Unit))
  | [], o7_2, o7_0, o7_1 => some (Sum.inr (()))
  | xo7 :: xs, o7_2, o7_0, o7_1 => (F11 ((⟨(o7_0).Waiting, (o7_0).Active, (o7_0).Stuck, (o7_0).Backoff, (o7_0).Retries, (o7_0).Cycle⟩ : SchedQueue)) xo7).bind fun t9 => (((((if xo7.Key = x1 then (if xo7.Kind = 0 then some true else (if xo7.Kind = 2 then some true else some (decide (xo7.Kind = 3)))) else some false)).bind fun o11 => (if o11 = true then some true else some o7_1))).bind fun o10 => (((((if t9.2.2.2.2.2.2.2 = true then (if t9.2.2.2.2.2.2.1 = x1 then some true else (if 5 < xo7.Kind then some (decide (xo7.Key = x1)) else some false)) else (if 5 < xo7.Kind then some (decide (xo7.Key = x1)) else some false))).bind fun o17 => (if o17 = true then some false else some o10))).bind fun o16 => (F14 ((⟨t9.1, t9.2.1, t9.2.2.1, t9.2.2.2.1, t9.2.2.2.2.1, t9.2.2.2.2.2.1⟩ : SchedQueue)) x1).bind fun t23 => (((if 1 < t23 then some true else some ((((decide (t23 = 1)) == o16) != true)))).bind fun o24 => (if o24 = true then (some false).map Sum.inl else F4_l7 x1 xs (o7_2 + 1) ((⟨t9.1, t9.2.1, t9.2.2.1, t9.2.2.2.1, t9.2.2.2.2.1, t9.2.2.2.2.2.1⟩ : SchedQueue)) o16))))
def F4 (x0 : (List Act)) (x1 : ByteArray) : Option (Bool) := (((F7 x0).bind fun t2 => (if (nb t2) = true then some true else some (decide (200 < (x1.size : Int))))).bind fun o1 => (if o1 = true then (F8).bind fun t5 => some t5 else (F9).bind fun t6 => (((ck (0 ≤ x0.length ∧ x0.length ≤ 4294967290)).bind fun u27 => F4_l7 x1 x0 0 ((⟨[], [], [], [], [], 0⟩ : SchedQueue)) false).bind fun o7 => match o7 with | Sum.inl f => some f | Sum.inr po7 => (F8).bind fun t28 => some t28)))
def a4 : AFn := ⟨86, [(.tmp 4)],
 (.seq (.reg [⟨(some 4), none, .mv (kB false), [], none⟩])
 (.seq (.seq (.sem (.reg [⟨(some 13), none, .mv (.t 0), [], none⟩,
   ⟨(some 14), none, .call 7 [(.t 13)], [], none⟩,
   ⟨(some 15), none, .not (.t 14), [], none⟩,
   ⟨(some 16), none, .mv (.t 15), [], none⟩,
   ⟨(some 17), (some (16, false)), .mv (.t 1), [], none⟩,
   ⟨(some 18), (some (16, false)), .slen (.t 17), [], none⟩,
   ⟨(some 19), (some (16, false)), .bin .gtr (.t 18) (kI 200), [], none⟩,
   ⟨(some 20), none, .pick (.t 16) (kB true) (.t 19), [], none⟩]))
 (.cond (.t 20)
 (.seq (.reg [⟨(some 21), none, .call 8 [], [], none⟩,
   ⟨(some 4), none, .mv (.t 21), [], none⟩])
 .ret)
 .skip))
 (.seq (.reg [⟨(some 22), none, .call 9 [], [], none⟩,
   ⟨(some 5), none, .zbox [.d (.v (.slice none 0 0)), .d (.v (.slice none 0 0)), .d (.v (.slice none 0 0)), .d (.v (.slice none 0 0)), .d (.v (.slice none 0 0)), .d (.v (.int .i64 0))], [], none⟩,
   ⟨none, none, .store 6 (.t 5) (.t 22), [], none⟩])
 (.seq (.reg [⟨(some 6), none, .mv (kB false), [], none⟩])
 (.seq (.seq (.reg [⟨(some 23), none, .mv (.t 0), [], none⟩,
   ⟨(some 24), none, .len (.t 23), [], none⟩,
   ⟨(some 25), none, .mv (kI 0), [], none⟩])
 (.sem (.block 0 (.loop (.seq (.reg [⟨(some 26), none, .bin .lss (.t 25) (.t 24), [], none⟩])
 (.seq (.cond (.t 26)
 .skip
 (.exit 0))
 (.seq (.block 1 (.seq (.reg [⟨(some 27), none, .indexA 4 (.t 23) (.t 25), [], none⟩,
   ⟨(some 28), none, .load (some 4) (.t 27), [], none⟩,
   ⟨(some 8), none, .zbox [.d (.v (.int .u8 0)), .d (.v (.string ⟨#[]⟩)), .d (.v (.int .i64 0)), .d (.v (.int .i64 0))], [], none⟩,
   ⟨none, none, .store 4 (.t 8) (.t 28), [], none⟩])
 (.seq (.reg [⟨(some 30), none, .load (some 6) (.t 5), [], none⟩,
   ⟨(some 31), none, .load (some 4) (.t 8), [], none⟩,
   ⟨(some 32), none, .call 11 [(.t 30), (.t 31)], [], none⟩,
   ⟨(some 29), none, .mv (.t 32), [], none⟩,
   ⟨(some 33), none, .ext (.t 29) 0, [], none⟩,
   ⟨(some 34), none, .ext (.t 29) 1, [], none⟩,
   ⟨(some 35), none, .ext (.t 29) 2, [], none⟩,
   ⟨(some 9), none, .zbox [.d (.v (.slice none 0 0)), .d (.v (.slice none 0 0)), .d (.v (.slice none 0 0)), .d (.v (.slice none 0 0)), .d (.v (.slice none 0 0)), .d (.v (.int .i64 0))], [], none⟩,
   ⟨none, none, .store 6 (.t 9) (.t 33), [], none⟩,
   ⟨(some 10), none, .mv (.t 34), [], none⟩,
   ⟨(some 11), none, .mv (.t 35), [], none⟩])
 (.seq (.reg [⟨(some 36), none, .load (some 6) (.t 9), [], none⟩,
   ⟨none, none, .store 6 (.t 5) (.t 36), [], (some [9])⟩])
 (.seq (.sem (.seq (.sem (.reg [⟨(some 37), none, .fieldA 1 (.t 8), [], none⟩,
   ⟨(some 38), none, .load none (.t 37), [], none⟩,
   ⟨(some 39), none, .mv (.t 1), [], none⟩,
   ⟨(some 40), none, .bin .eql (.t 38) (.t 39), [], none⟩,
   ⟨(some 41), none, .mv (.t 40), [], none⟩,
   ⟨(some 42), (some (41, true)), .fieldA 0 (.t 8), [], none⟩,
   ⟨(some 43), (some (41, true)), .load none (.t 42), [], none⟩,
   ⟨(some 44), (some (41, true)), .bin .eql (.t 43) (.k (.c (.d (.v (.int .u8 0))))), [], none⟩,
   ⟨(some 45), (some (41, true)), .mv (.t 44), [], none⟩,
   ⟨(some 46), (some (45, false)), .fieldA 0 (.t 8), [], none⟩,
   ⟨(some 47), (some (45, false)), .load none (.t 46), [], none⟩,
   ⟨(some 48), (some (45, false)), .bin .eql (.t 47) (.k (.c (.d (.v (.int .u8 2))))), [], none⟩,
   ⟨(some 49), (some (41, true)), .pick (.t 45) (kB true) (.t 48), [], none⟩,
   ⟨(some 50), (some (41, true)), .mv (.t 49), [], none⟩,
   ⟨(some 51), (some (50, false)), .fieldA 0 (.t 8), [], none⟩,
   ⟨(some 52), (some (50, false)), .load none (.t 51), [], none⟩,
   ⟨(some 53), (some (50, false)), .bin .eql (.t 52) (.k (.c (.d (.v (.int .u8 3))))), [], none⟩,
   ⟨(some 54), (some (41, true)), .pick (.t 50) (kB true) (.t 53), [], none⟩,
   ⟨(some 55), none, .pick (.t 41) (.t 54) (kB false), [], none⟩]))
 (.cond (.t 55)
 (.reg [⟨(some 6), none, .mv (kB true), [], none⟩])
 .skip)))
 (.seq (.sem (.seq (.sem (.reg [⟨(some 56), none, .mv (.t 11), [], none⟩,
   ⟨(some 57), none, .mv (.t 56), [], none⟩,
   ⟨(some 58), (some (57, true)), .mv (.t 10), [], none⟩,
   ⟨(some 59), (some (57, true)), .mv (.t 1), [], none⟩,
   ⟨(some 60), (some (57, true)), .bin .eql (.t 58) (.t 59), [], none⟩,
   ⟨(some 61), none, .pick (.t 57) (.t 60) (kB false), [], none⟩,
   ⟨(some 62), none, .mv (.t 61), [], none⟩,
   ⟨(some 63), (some (62, false)), .fieldA 0 (.t 8), [], none⟩,
   ⟨(some 64), (some (62, false)), .load none (.t 63), [], none⟩,
   ⟨(some 65), (some (62, false)), .bin .gtr (.t 64) (.k (.c (.d (.v (.int .u8 5))))), [], none⟩,
   ⟨(some 66), (some (62, false)), .mv (.t 65), [], none⟩,
   ⟨(some 67), (some (66, true)), .fieldA 1 (.t 8), [], none⟩,
   ⟨(some 68), (some (66, true)), .load none (.t 67), [], none⟩,
   ⟨(some 69), (some (66, true)), .mv (.t 1), [], none⟩,
   ⟨(some 70), (some (66, true)), .bin .eql (.t 68) (.t 69), [], none⟩,
   ⟨(some 71), (some (62, false)), .pick (.t 66) (.t 70) (kB false), [], none⟩,
   ⟨(some 72), none, .pick (.t 62) (kB true) (.t 71), [], none⟩]))
 (.cond (.t 72)
 (.reg [⟨(some 6), none, .mv (kB false), [], none⟩])
 .skip)))
 (.seq (.reg [⟨(some 73), none, .load (some 6) (.t 5), [], none⟩,
   ⟨(some 74), none, .mv (.t 1), [], none⟩,
   ⟨(some 75), none, .call 14 [(.t 73), (.t 74)], [], none⟩,
   ⟨(some 12), none, .mv (.t 75), [], none⟩])
 (.seq (.sem (.reg [⟨(some 76), none, .mv (.t 12), [], none⟩,
   ⟨(some 77), none, .bin .gtr (.t 76) (kI 1), [], none⟩,
   ⟨(some 78), none, .mv (.t 77), [], none⟩,
   ⟨(some 79), (some (78, false)), .mv (.t 12), [], none⟩,
   ⟨(some 80), (some (78, false)), .bin .eql (.t 79) (kI 1), [], none⟩,
   ⟨(some 81), (some (78, false)), .mv (.t 6), [], none⟩,
   ⟨(some 82), (some (78, false)), .beq true (.t 80) (.t 81), [], none⟩,
   ⟨(some 83), none, .pick (.t 78) (kB true) (.t 82), [], (some [])⟩]))
 (.cond (.t 83)
 (.seq (.reg [⟨(some 4), none, .mv (kB false), [], none⟩])
 .ret)
 .skip)))))))))
 (.reg [⟨(some 84), none, .bin .add (.t 25) (kI 1), [], none⟩,
   ⟨(some 25), none, .mv (.t 84), [], none⟩]))))))))
 (.seq (.reg [⟨(some 85), none, .call 8 [], [], none⟩,
   ⟨(some 4), none, .mv (.t 85), [], none⟩])
 .ret))))))⟩
theorem a4_ok : afn Try.prog 4 = some a4.er := by kernel_rfl
theorem F4_ok {x0 : (List Act)} {x1 : ByteArray} {r : Bool} (h : F4 x0 x1 = some r) : CallD Try.prog 4 [.c (.d (.sl (x0.map eAct))), .c (.d (.v (.string x1)))] [] (tupV [.c (.d (.v (.bool r)))]) [] := by
  refine callS a4_ok (by simp [a4]) ?_
  rw [F4] at h
  simp only [a4, VW.down, Nat.reduceEqDiff, reduceCtorEq, Nat.reduceAdd, Nat.reduceLeDiff, Nat.reduceLT, Nat.reduceBEq, Nat.reduceSub, EE.down]
  obtain ⟨o1, ho, h⟩ := Option.bind_eq_some_iff.1 h
  refine cutS (fun s => s = ⟨[(0, .one (.c (.d (.sl (x0.map eAct))))), (1, .one (.c (.d (.v (.string x1))))), (20, .one (.c (.d (.v (.bool o1)))))], []⟩) ?_ ?_
  · have h := ho
    clear ho
    simp only [VW.down, Nat.reduceEqDiff, reduceCtorEq, Nat.reduceAdd, Nat.reduceLeDiff, Nat.reduceLT, Nat.reduceBEq, Nat.reduceSub, EE.down]
    obtain ⟨t2, ht2, h⟩ := Option.bind_eq_some_iff.1 h
    refine callX_n [] (F7_ok ht2) ?_ ?_ ?_ ?_ ?_ ?_
    · first | rfl | simp [nrmA, nrmC, nrm, A1.ren, C.ren, rn, List.length_set]
    · simp [liveAll, A1.live, C.live]
    · rfl
    · decide
    · exact trivial
    simp only [VW.down, Nat.reduceEqDiff, reduceCtorEq, Nat.reduceAdd, Nat.reduceLeDiff, Nat.reduceLT, Nat.reduceBEq, Nat.reduceSub, EE.down]
    refine guardSB (fun g3 => ?_) (fun g3 => ?_)
    · have h := (if_pos g3).symm.trans h
      simp only [VW.down, Nat.reduceEqDiff, reduceCtorEq, Nat.reduceAdd, Nat.reduceLeDiff, Nat.reduceLT, Nat.reduceBEq, Nat.reduceSub, EE.down]
      obtain rfl := Option.some.inj h
      exact eM [] rfl
    · have h := (if_neg g3).symm.trans h
      simp only [VW.down, Nat.reduceEqDiff, reduceCtorEq, Nat.reduceAdd, Nat.reduceLeDiff, Nat.reduceLT, Nat.reduceBEq, Nat.reduceSub, EE.down]
      obtain rfl := Option.some.inj h
      exact eM [] rfl
  · rintro _ rfl
    clear ho
    simp only [VW.down, Nat.reduceEqDiff, reduceCtorEq, Nat.reduceAdd, Nat.reduceLeDiff, Nat.reduceLT, Nat.reduceBEq, Nat.reduceSub, EE.down]
    refine condB (fun c4 => ?_) (fun c4 => ?_)
    · have h := (if_pos c4).symm.trans h
      simp only [VW.down, Nat.reduceEqDiff, reduceCtorEq, Nat.reduceAdd, Nat.reduceLeDiff, Nat.reduceLT, Nat.reduceBEq, Nat.reduceSub, EE.down]
      obtain ⟨t5, ht5, h⟩ := Option.bind_eq_some_iff.1 h
      refine callX_n [] (F8_ok ht5) ?_ ?_ ?_ ?_ ?_ ?_
      · first | rfl | simp [nrmA, nrmC, nrm, A1.ren, C.ren, rn, List.length_set]
      · simp [liveAll, A1.live, C.live]
      · rfl
      · decide
      · exact trivial
      simp only [VW.down, Nat.reduceEqDiff, reduceCtorEq, Nat.reduceAdd, Nat.reduceLeDiff, Nat.reduceLT, Nat.reduceBEq, Nat.reduceSub, EE.down]
      obtain rfl := Option.some.inj h
      exact eF []
    · have h := (if_neg c4).symm.trans h
      simp only [VW.down, Nat.reduceEqDiff, reduceCtorEq, Nat.reduceAdd, Nat.reduceLeDiff, Nat.reduceLT, Nat.reduceBEq, Nat.reduceSub, EE.down]
      obtain ⟨t6, ht6, h⟩ := Option.bind_eq_some_iff.1 h
      refine callX_n [] (F9_ok ht6) ?_ ?_ ?_ ?_ ?_ ?_
      · first | rfl | simp [nrmA, nrmC, nrm, A1.ren, C.ren, rn, List.length_set]
      · simp [liveAll, A1.live, C.live]
      · rfl
      · decide
      · exact trivial
      simp only [VW.down, Nat.reduceEqDiff, reduceCtorEq, Nat.reduceAdd, Nat.reduceLeDiff, Nat.reduceLT, Nat.reduceBEq, Nat.reduceSub, EE.down]
      obtain ⟨o7, ho, h⟩ := Option.bind_eq_some_iff.1 h
      refine cutS (fun s => ∃ po7, o7 = Sum.inr po7 ∧ s = ⟨[], []⟩) ?_ ?_
      · have h0o7 := h
        have h := ho
        clear ho
        obtain ⟨_, hk, h⟩ := Option.bind_eq_some_iff.1 h
        have hk := ck_some hk
        simp only [VW.down, Nat.reduceEqDiff, reduceCtorEq, Nat.reduceAdd, Nat.reduceLeDiff, Nat.reduceLT, Nat.reduceBEq, Nat.reduceSub, EE.down]
        refine bL (fun j s => ∃ (o7_2 : Nat) (o7_0 : SchedQueue) (o7_1 : Bool), (o7_2 ≤ x0.length ∧ j = x0.length - o7_2) ∧ s = ⟨[(1, .one (.c (.d (.v (.string x1))))), (5, .one (.c (.pt 0 0))), (6, .one (.c (.d (.v (.bool o7_1))))), (23, .one (.c (.d (.sl (x0.map eAct))))), (24, .one (.c (.d (.v (.int .i64 ((x0.length : Int))))))), (25, .one (.c (.d (.v (.int .i64 ((o7_2 : Int)))))))], [some (.box [.d (.sl (((o7_0).Waiting).map eWorkItem)), .d (.sl (((o7_0).Active).map eWorkItem)), .d (.sl (((o7_0).Stuck).map eWorkItem)), .d (.sl (((o7_0).Backoff).map eWorkItem)), .d (.sl (((o7_0).Retries).map eWorkItem)), .d (.v (.int .i64 ((o7_0).Cycle)))])]⟩ ∧ F4_l7 x1 (x0.drop o7_2) o7_2 o7_0 o7_1 = some o7) (x0.length - 0) [some 0] ⟨0, (⟨[], [], [], [], [], 0⟩ : SchedQueue), false, ⟨hk.1, rfl⟩, rfl, h⟩ ?_
        rintro _ _ ⟨o7_2, o7_0, o7_1, ⟨hi, rfl⟩, rfl, h⟩
        simp only [VW.down, Nat.reduceEqDiff, reduceCtorEq, Nat.reduceAdd, Nat.reduceLeDiff, Nat.reduceLT, Nat.reduceBEq, Nat.reduceSub, EE.down]
        refine condS (fun c8 => ?_) (fun c8 => ?_)
        · obtain ⟨xo7, hxo7, hd⟩ := countY c8
          rw [hd, F4_l7] at h
          simp only [VW.down, Nat.reduceEqDiff, reduceCtorEq, Nat.reduceAdd, Nat.reduceLeDiff, Nat.reduceLT, Nat.reduceBEq, Nat.reduceSub, EE.down]
          refine t_idxF (enc := eAct) (xs := x0) rfl rfl hxo7 rfl ?_
          simp only [VW.down, Nat.reduceEqDiff, reduceCtorEq, Nat.reduceAdd, Nat.reduceLeDiff, Nat.reduceLT, Nat.reduceBEq, Nat.reduceSub, EE.down]
          obtain ⟨t9, ht9, h⟩ := Option.bind_eq_some_iff.1 h
          refine callX_n [] (F11_ok ht9) ?_ ?_ ?_ ?_ ?_ ?_
          · first | rfl | simp [nrmA, nrmC, nrm, A1.ren, C.ren, rn, List.length_set]
          · simp [liveAll, A1.live, C.live]
          · rfl
          · decide
          · exact trivial
          simp only [VW.down, Nat.reduceEqDiff, reduceCtorEq, Nat.reduceAdd, Nat.reduceLeDiff, Nat.reduceLT, Nat.reduceBEq, Nat.reduceSub, EE.down]
          obtain ⟨o10, ho, h⟩ := Option.bind_eq_some_iff.1 h
          refine cutS (fun s => s = ⟨[(1, .one (.c (.d (.v (.string x1))))), (5, .one (.c (.pt 0 0))), (6, .one (.c (.d (.v (.bool o10))))), (8, .one (.c (.pt 1 0))), (10, .one (.c (.d (.v (.string t9.2.2.2.2.2.2.1))))), (11, .one (.c (.d (.v (.bool t9.2.2.2.2.2.2.2))))), (23, .one (.c (.d (.sl (x0.map eAct))))), (24, .one (.c (.d (.v (.int .i64 ((x0.length : Int))))))), (25, .one (.c (.d (.v (.int .i64 ((o7_2 : Int)))))))], [some (.box [.d (.sl (t9.1.map eWorkItem)), .d (.sl (t9.2.1.map eWorkItem)), .d (.sl (t9.2.2.1.map eWorkItem)), .d (.sl (t9.2.2.2.1.map eWorkItem)), .d (.sl (t9.2.2.2.2.1.map eWorkItem)), .d (.v (.int .i64 t9.2.2.2.2.2.1))]), some (.box [.d (.v (.int .u8 xo7.Kind)), .d (.v (.string xo7.Key)), .d (.v (.int .i64 xo7.Priority)), .d (.v (.int .i64 xo7.N))])]⟩) ?_ ?_
          · have h := ho
            clear ho
            simp only [VW.down, Nat.reduceEqDiff, reduceCtorEq, Nat.reduceAdd, Nat.reduceLeDiff, Nat.reduceLT, Nat.reduceBEq, Nat.reduceSub, EE.down]
            obtain ⟨o11, ho, h⟩ := Option.bind_eq_some_iff.1 h
            refine cutS (fun s => s = ⟨[(1, .one (.c (.d (.v (.string x1))))), (5, .one (.c (.pt 0 0))), (6, .one (.c (.d (.v (.bool o7_1))))), (8, .one (.c (.pt 1 0))), (10, .one (.c (.d (.v (.string t9.2.2.2.2.2.2.1))))), (11, .one (.c (.d (.v (.bool t9.2.2.2.2.2.2.2))))), (23, .one (.c (.d (.sl (x0.map eAct))))), (24, .one (.c (.d (.v (.int .i64 ((x0.length : Int))))))), (25, .one (.c (.d (.v (.int .i64 ((o7_2 : Int))))))), (55, .one (.c (.d (.v (.bool o11)))))], [some (.box [.d (.sl (t9.1.map eWorkItem)), .d (.sl (t9.2.1.map eWorkItem)), .d (.sl (t9.2.2.1.map eWorkItem)), .d (.sl (t9.2.2.2.1.map eWorkItem)), .d (.sl (t9.2.2.2.2.1.map eWorkItem)), .d (.v (.int .i64 t9.2.2.2.2.2.1))]), some (.box [.d (.v (.int .u8 xo7.Kind)), .d (.v (.string xo7.Key)), .d (.v (.int .i64 xo7.Priority)), .d (.v (.int .i64 xo7.N))])]⟩) ?_ ?_
            · have h := ho
              clear ho
              simp only [VW.down, Nat.reduceEqDiff, reduceCtorEq, Nat.reduceAdd, Nat.reduceLeDiff, Nat.reduceLT, Nat.reduceBEq, Nat.reduceSub, EE.down]
              refine guardS (fun g12 => ?_) (fun g12 => ?_)
              · have h := (if_pos g12).symm.trans h
                simp only [VW.down, Nat.reduceEqDiff, reduceCtorEq, Nat.reduceAdd, Nat.reduceLeDiff, Nat.reduceLT, Nat.reduceBEq, Nat.reduceSub, EE.down]
                refine guardS (fun g13 => ?_) (fun g13 => ?_)
                · have h := (if_pos g13).symm.trans h
                  simp only [VW.down, Nat.reduceEqDiff, reduceCtorEq, Nat.reduceAdd, Nat.reduceLeDiff, Nat.reduceLT, Nat.reduceBEq, Nat.reduceSub, EE.down]
                  obtain rfl := Option.some.inj h
                  exact eM [some 0, some 1] rfl
                · have h := (if_neg g13).symm.trans h
                  simp only [VW.down, Nat.reduceEqDiff, reduceCtorEq, Nat.reduceAdd, Nat.reduceLeDiff, Nat.reduceLT, Nat.reduceBEq, Nat.reduceSub, EE.down]
                  refine guardS (fun g14 => ?_) (fun g14 => ?_)
                  · have h := (if_pos g14).symm.trans h
                    simp only [VW.down, Nat.reduceEqDiff, reduceCtorEq, Nat.reduceAdd, Nat.reduceLeDiff, Nat.reduceLT, Nat.reduceBEq, Nat.reduceSub, EE.down]
                    obtain rfl := Option.some.inj h
                    exact eM [some 0, some 1] rfl
                  · have h := (if_neg g14).symm.trans h
                    simp only [VW.down, Nat.reduceEqDiff, reduceCtorEq, Nat.reduceAdd, Nat.reduceLeDiff, Nat.reduceLT, Nat.reduceBEq, Nat.reduceSub, EE.down]
                    obtain rfl := Option.some.inj h
                    exact eM [some 0, some 1] rfl
              · have h := (if_neg g12).symm.trans h
                simp only [VW.down, Nat.reduceEqDiff, reduceCtorEq, Nat.reduceAdd, Nat.reduceLeDiff, Nat.reduceLT, Nat.reduceBEq, Nat.reduceSub, EE.down]
                obtain rfl := Option.some.inj h
                exact eM [some 0, some 1] rfl
            · rintro _ rfl
              clear ho
              simp only [VW.down, Nat.reduceEqDiff, reduceCtorEq, Nat.reduceAdd, Nat.reduceLeDiff, Nat.reduceLT, Nat.reduceBEq, Nat.reduceSub, EE.down]
              refine condB (fun c15 => ?_) (fun c15 => ?_)
              · have h := (if_pos c15).symm.trans h
                simp only [VW.down, Nat.reduceEqDiff, reduceCtorEq, Nat.reduceAdd, Nat.reduceLeDiff, Nat.reduceLT, Nat.reduceBEq, Nat.reduceSub, EE.down]
                obtain rfl := Option.some.inj h
                exact eM [some 0, some 1] rfl
              · have h := (if_neg c15).symm.trans h
                simp only [VW.down, Nat.reduceEqDiff, reduceCtorEq, Nat.reduceAdd, Nat.reduceLeDiff, Nat.reduceLT, Nat.reduceBEq, Nat.reduceSub, EE.down]
                obtain rfl := Option.some.inj h
                exact eM [some 0, some 1] rfl
          · rintro _ rfl
            clear ho
            simp only [VW.down, Nat.reduceEqDiff, reduceCtorEq, Nat.reduceAdd, Nat.reduceLeDiff, Nat.reduceLT, Nat.reduceBEq, Nat.reduceSub, EE.down]
            obtain ⟨o16, ho, h⟩ := Option.bind_eq_some_iff.1 h
            refine cutS (fun s => s = ⟨[(1, .one (.c (.d (.v (.string x1))))), (5, .one (.c (.pt 0 0))), (6, .one (.c (.d (.v (.bool o16))))), (23, .one (.c (.d (.sl (x0.map eAct))))), (24, .one (.c (.d (.v (.int .i64 ((x0.length : Int))))))), (25, .one (.c (.d (.v (.int .i64 ((o7_2 : Int)))))))], [some (.box [.d (.sl (t9.1.map eWorkItem)), .d (.sl (t9.2.1.map eWorkItem)), .d (.sl (t9.2.2.1.map eWorkItem)), .d (.sl (t9.2.2.2.1.map eWorkItem)), .d (.sl (t9.2.2.2.2.1.map eWorkItem)), .d (.v (.int .i64 t9.2.2.2.2.2.1))])]⟩) ?_ ?_
            · have h := ho
              clear ho
              simp only [VW.down, Nat.reduceEqDiff, reduceCtorEq, Nat.reduceAdd, Nat.reduceLeDiff, Nat.reduceLT, Nat.reduceBEq, Nat.reduceSub, EE.down]
              obtain ⟨o17, ho, h⟩ := Option.bind_eq_some_iff.1 h
              refine cutS (fun s => s = ⟨[(1, .one (.c (.d (.v (.string x1))))), (5, .one (.c (.pt 0 0))), (6, .one (.c (.d (.v (.bool o10))))), (23, .one (.c (.d (.sl (x0.map eAct))))), (24, .one (.c (.d (.v (.int .i64 ((x0.length : Int))))))), (25, .one (.c (.d (.v (.int .i64 ((o7_2 : Int))))))), (72, .one (.c (.d (.v (.bool o17)))))], [some (.box [.d (.sl (t9.1.map eWorkItem)), .d (.sl (t9.2.1.map eWorkItem)), .d (.sl (t9.2.2.1.map eWorkItem)), .d (.sl (t9.2.2.2.1.map eWorkItem)), .d (.sl (t9.2.2.2.2.1.map eWorkItem)), .d (.v (.int .i64 t9.2.2.2.2.2.1))])]⟩) ?_ ?_
              · have h := ho
                clear ho
                simp only [VW.down, Nat.reduceEqDiff, reduceCtorEq, Nat.reduceAdd, Nat.reduceLeDiff, Nat.reduceLT, Nat.reduceBEq, Nat.reduceSub, EE.down]
                refine guardSB (fun g18 => ?_) (fun g18 => ?_)
                · have h := (if_pos g18).symm.trans h
                  simp only [VW.down, Nat.reduceEqDiff, reduceCtorEq, Nat.reduceAdd, Nat.reduceLeDiff, Nat.reduceLT, Nat.reduceBEq, Nat.reduceSub, EE.down]
                  refine guardS (fun g19 => ?_) (fun g19 => ?_)
                  · have h := (if_pos g19).symm.trans h
                    simp only [VW.down, Nat.reduceEqDiff, reduceCtorEq, Nat.reduceAdd, Nat.reduceLeDiff, Nat.reduceLT, Nat.reduceBEq, Nat.reduceSub, EE.down]
                    obtain rfl := Option.some.inj h
                    exact eM [some 0] rfl
                  · have h := (if_neg g19).symm.trans h
                    simp only [VW.down, Nat.reduceEqDiff, reduceCtorEq, Nat.reduceAdd, Nat.reduceLeDiff, Nat.reduceLT, Nat.reduceBEq, Nat.reduceSub, EE.down]
                    refine guardS (fun g20 => ?_) (fun g20 => ?_)
                    · have h := (if_pos g20).symm.trans h
                      simp only [VW.down, Nat.reduceEqDiff, reduceCtorEq, Nat.reduceAdd, Nat.reduceLeDiff, Nat.reduceLT, Nat.reduceBEq, Nat.reduceSub, EE.down]
                      obtain rfl := Option.some.inj h
                      exact eM [some 0] rfl
                    · have h := (if_neg g20).symm.trans h
                      simp only [VW.down, Nat.reduceEqDiff, reduceCtorEq, Nat.reduceAdd, Nat.reduceLeDiff, Nat.reduceLT, Nat.reduceBEq, Nat.reduceSub, EE.down]
                      obtain rfl := Option.some.inj h
                      exact eM [some 0] rfl
                · have h := (if_neg g18).symm.trans h
                  simp only [VW.down, Nat.reduceEqDiff, reduceCtorEq, Nat.reduceAdd, Nat.reduceLeDiff, Nat.reduceLT, Nat.reduceBEq, Nat.reduceSub, EE.down]
                  refine guardS (fun g21 => ?_) (fun g21 => ?_)
                  · have h := (if_pos g21).symm.trans h
                    simp only [VW.down, Nat.reduceEqDiff, reduceCtorEq, Nat.reduceAdd, Nat.reduceLeDiff, Nat.reduceLT, Nat.reduceBEq, Nat.reduceSub, EE.down]
                    obtain rfl := Option.some.inj h
                    exact eM [some 0] rfl
                  · have h := (if_neg g21).symm.trans h
                    simp only [VW.down, Nat.reduceEqDiff, reduceCtorEq, Nat.reduceAdd, Nat.reduceLeDiff, Nat.reduceLT, Nat.reduceBEq, Nat.reduceSub, EE.down]
                    obtain rfl := Option.some.inj h
                    exact eM [some 0] rfl
              · rintro _ rfl
                clear ho
                simp only [VW.down, Nat.reduceEqDiff, reduceCtorEq, Nat.reduceAdd, Nat.reduceLeDiff, Nat.reduceLT, Nat.reduceBEq, Nat.reduceSub, EE.down]
                refine condB (fun c22 => ?_) (fun c22 => ?_)
                · have h := (if_pos c22).symm.trans h
                  simp only [VW.down, Nat.reduceEqDiff, reduceCtorEq, Nat.reduceAdd, Nat.reduceLeDiff, Nat.reduceLT, Nat.reduceBEq, Nat.reduceSub, EE.down]
                  obtain rfl := Option.some.inj h
                  exact eM [some 0] rfl
                · have h := (if_neg c22).symm.trans h
                  simp only [VW.down, Nat.reduceEqDiff, reduceCtorEq, Nat.reduceAdd, Nat.reduceLeDiff, Nat.reduceLT, Nat.reduceBEq, Nat.reduceSub, EE.down]
                  obtain rfl := Option.some.inj h
                  exact eM [some 0] rfl
            · rintro _ rfl
              clear ho
              simp only [VW.down, Nat.reduceEqDiff, reduceCtorEq, Nat.reduceAdd, Nat.reduceLeDiff, Nat.reduceLT, Nat.reduceBEq, Nat.reduceSub, EE.down]
              obtain ⟨t23, ht23, h⟩ := Option.bind_eq_some_iff.1 h
              refine callX_n [] (F14_ok ht23) ?_ ?_ ?_ ?_ ?_ ?_
              · first | rfl | simp [nrmA, nrmC, nrm, A1.ren, C.ren, rn, List.length_set]
              · simp [liveAll, A1.live, C.live]
              · rfl
              · decide
              · exact trivial
              simp only [VW.down, Nat.reduceEqDiff, reduceCtorEq, Nat.reduceAdd, Nat.reduceLeDiff, Nat.reduceLT, Nat.reduceBEq, Nat.reduceSub, EE.down]
              obtain ⟨o24, ho, h⟩ := Option.bind_eq_some_iff.1 h
              refine cutS (fun s => s = ⟨[(1, .one (.c (.d (.v (.string x1))))), (5, .one (.c (.pt 0 0))), (6, .one (.c (.d (.v (.bool o16))))), (23, .one (.c (.d (.sl (x0.map eAct))))), (24, .one (.c (.d (.v (.int .i64 ((x0.length : Int))))))), (25, .one (.c (.d (.v (.int .i64 ((o7_2 : Int))))))), (83, .one (.c (.d (.v (.bool o24)))))], [some (.box [.d (.sl (t9.1.map eWorkItem)), .d (.sl (t9.2.1.map eWorkItem)), .d (.sl (t9.2.2.1.map eWorkItem)), .d (.sl (t9.2.2.2.1.map eWorkItem)), .d (.sl (t9.2.2.2.2.1.map eWorkItem)), .d (.v (.int .i64 t9.2.2.2.2.2.1))])]⟩) ?_ ?_
              · have h := ho
                clear ho
                simp only [VW.down, Nat.reduceEqDiff, reduceCtorEq, Nat.reduceAdd, Nat.reduceLeDiff, Nat.reduceLT, Nat.reduceBEq, Nat.reduceSub, EE.down]
                refine guardS (fun g25 => ?_) (fun g25 => ?_)
                · have h := (if_pos g25).symm.trans h
                  simp only [VW.down, Nat.reduceEqDiff, reduceCtorEq, Nat.reduceAdd, Nat.reduceLeDiff, Nat.reduceLT, Nat.reduceBEq, Nat.reduceSub, EE.down]
                  obtain rfl := Option.some.inj h
                  exact eM [some 0] rfl
                · have h := (if_neg g25).symm.trans h
                  simp only [VW.down, Nat.reduceEqDiff, reduceCtorEq, Nat.reduceAdd, Nat.reduceLeDiff, Nat.reduceLT, Nat.reduceBEq, Nat.reduceSub, EE.down]
                  obtain rfl := Option.some.inj h
                  exact eM [some 0] rfl
              · rintro _ rfl
                clear ho
                simp only [VW.down, Nat.reduceEqDiff, reduceCtorEq, Nat.reduceAdd, Nat.reduceLeDiff, Nat.reduceLT, Nat.reduceBEq, Nat.reduceSub, EE.down]
                refine condB (fun c26 => ?_) (fun c26 => ?_)
                · have h := (if_pos c26).symm.trans h
                  simp only [VW.down, Nat.reduceEqDiff, reduceCtorEq, Nat.reduceAdd, Nat.reduceLeDiff, Nat.reduceLT, Nat.reduceBEq, Nat.reduceSub, EE.down]
                  obtain ⟨fh0o7, hfh0o7, rfl⟩ := Option.map_eq_some_iff.1 h
                  have h := hfh0o7.trans h0o7
                  obtain rfl := Option.some.inj h
                  exact eF []
                · have h := (if_neg c26).symm.trans h
                  simp only [VW.down, Nat.reduceEqDiff, reduceCtorEq, Nat.reduceAdd, Nat.reduceLeDiff, Nat.reduceLT, Nat.reduceBEq, Nat.reduceSub, EE.down]
                  rw [wrapN (by omega)]
                  exact eL' (x0.length - (o7_2 + 1)) [some 0] ⟨o7_2 + 1, (⟨t9.1, t9.2.1, t9.2.2.1, t9.2.2.2.1, t9.2.2.2.2.1, t9.2.2.2.2.2.1⟩ : SchedQueue), o16, ⟨by omega, rfl⟩, rfl, h⟩ (by omega)
        · rw [countN c8, F4_l7] at h
          simp only [VW.down, Nat.reduceEqDiff, reduceCtorEq, Nat.reduceAdd, Nat.reduceLeDiff, Nat.reduceLT, Nat.reduceBEq, Nat.reduceSub, EE.down]
          obtain rfl := Option.some.inj h
          exact eM [] ⟨_, rfl, rfl⟩
      · rintro _ ⟨po7, rfl, rfl⟩
        clear ho
        dsimp only at h
        simp only [VW.down, Nat.reduceEqDiff, reduceCtorEq, Nat.reduceAdd, Nat.reduceLeDiff, Nat.reduceLT, Nat.reduceBEq, Nat.reduceSub, EE.down]
        obtain ⟨t28, ht28, h⟩ := Option.bind_eq_some_iff.1 h
        refine callX_n [] (F8_ok ht28) ?_ ?_ ?_ ?_ ?_ ?_
        · first | rfl | simp [nrmA, nrmC, nrm, A1.ren, C.ren, rn, List.length_set]
        · simp [liveAll, A1.live, C.live]
        · rfl
        · decide
        · exact trivial
        simp only [VW.down, Nat.reduceEqDiff, reduceCtorEq, Nat.reduceAdd, Nat.reduceLeDiff, Nat.reduceLT, Nat.reduceBEq, Nat.reduceSub, EE.down]
        obtain rfl := Option.some.inj h
        exact eF []

/- orchestrator/orchestratorlaw42.without -/
def F16_l1 (x1 : Int) : List WorkItem → Nat → (List WorkItem) → Option ((List WorkItem))
  | [], o1_1, o1_0 => some o1_0
  | xo1 :: xs, o1_1, o1_0 => (((if ¬ ((o1_1 : Int) = x1) then (apI o1_0 ([xo1])).bind fun a5 => some a5 else some o1_0)).bind fun o3 => F16_l1 x1 xs (o1_1 + 1) o3)
def F16 (x0 : (List WorkItem)) (x1 : Int) : Option ((List WorkItem)) := (((ck (0 ≤ x0.length ∧ x0.length ≤ 4294967290)).bind fun u6 => F16_l1 x1 x0 0 ([])).bind fun o1 => some o1)
def a16 : AFn := ⟨24, [(.tmp 4)],
 (.seq (.reg [⟨(some 4), none, .mv kN, [], none⟩])
 (.seq (.reg [⟨(some 5), none, .mv kN, [], none⟩])
 (.seq (.seq (.reg [⟨(some 8), none, .mv (.t 0), [], none⟩,
   ⟨(some 9), none, .len (.t 8), [], none⟩,
   ⟨(some 10), none, .mv (kI 0), [], none⟩])
 (.sem (.block 0 (.loop (.seq (.reg [⟨(some 11), none, .bin .lss (.t 10) (.t 9), [], none⟩])
 (.seq (.cond (.t 11)
 .skip
 (.exit 0))
 (.seq (.sem (.block 1 (.seq (.reg [⟨(some 12), none, .mv (.t 10), [], none⟩,
   ⟨(some 13), none, .indexA 2 (.t 8) (.t 10), [], none⟩,
   ⟨(some 14), none, .load (some 2) (.t 13), [], none⟩,
   ⟨(some 7), none, .zbox [.d (.v (.string ⟨#[]⟩)), .d (.v (.int .i64 0))], [], none⟩,
   ⟨(some 6), none, .mv (.t 12), [], none⟩,
   ⟨none, none, .store 2 (.t 7) (.t 14), [], none⟩])
 (.seq (.reg [⟨(some 15), none, .mv (.t 6), [], none⟩,
   ⟨(some 16), none, .mv (.t 1), [], none⟩,
   ⟨(some 17), none, .bin .neq (.t 15) (.t 16), [], none⟩])
 (.cond (.t 17)
 (.reg [⟨(some 18), none, .mv (.t 5), [], none⟩,
   ⟨(some 19), none, .load (some 2) (.t 7), [], none⟩,
   ⟨(some 20), none, .bslice 2 [(.t 19)], [], none⟩,
   ⟨(some 21), none, .app 2 24 (.t 18) (.t 20), [], none⟩,
   ⟨(some 5), none, .mv (.t 21), [], none⟩])
 .skip)))))
 (.reg [⟨(some 22), none, .bin .add (.t 10) (kI 1), [], none⟩,
   ⟨(some 10), none, .mv (.t 22), [], none⟩]))))))))
 (.seq (.reg [⟨(some 23), none, .mv (.t 5), [], none⟩,
   ⟨(some 4), none, .mv (.t 23), [], none⟩])
 .ret))))⟩
theorem a16_ok : afn Try.prog 16 = some a16.er := by kernel_rfl
theorem F16_ok {x0 : (List WorkItem)} {x1 : Int} {r : (List WorkItem)} (h : F16 x0 x1 = some r) : CallD Try.prog 16 [.c (.d (.sl (x0.map eWorkItem))), .c (.d (.v (.int .i64 x1)))] [] (tupV [.c (.own 0 0 0 (r.length) none)]) [some (.arr 0 2 (r.map eWorkItem))] := by
  refine callS a16_ok (by simp [a16]) ?_
  rw [F16] at h
  simp only [a16, VW.down, Nat.reduceEqDiff, reduceCtorEq, Nat.reduceAdd, Nat.reduceLeDiff, Nat.reduceLT, Nat.reduceBEq, Nat.reduceSub, EE.down]
  obtain ⟨o1, ho, h⟩ := Option.bind_eq_some_iff.1 h
  refine cutS (fun s => s = ⟨[(5, .one (.c (.own 0 0 0 (o1.length) none)))], [some (.arr 0 2 (o1.map eWorkItem))]⟩) ?_ ?_
  · have h := ho
    clear ho
    obtain ⟨_, hk, h⟩ := Option.bind_eq_some_iff.1 h
    have hk := ck_some hk
    simp only [VW.down, Nat.reduceEqDiff, reduceCtorEq, Nat.reduceAdd, Nat.reduceLeDiff, Nat.reduceLT, Nat.reduceBEq, Nat.reduceSub, EE.down]
    refine bL (fun j s => ∃ (o1_1 : Nat) (o1_0 : List WorkItem), (o1_1 ≤ x0.length ∧ j = x0.length - o1_1) ∧ s = ⟨[(1, .one (.c (.d (.v (.int .i64 x1))))), (5, .one (.c (.own 0 0 0 (o1_0.length) none))), (8, .one (.c (.d (.sl (x0.map eWorkItem))))), (9, .one (.c (.d (.v (.int .i64 ((x0.length : Int))))))), (10, .one (.c (.d (.v (.int .i64 ((o1_1 : Int)))))))], [some (.arr 0 2 (o1_0.map eWorkItem))]⟩ ∧ F16_l1 x1 (x0.drop o1_1) o1_1 o1_0 = some o1) (x0.length - 0) [none] ⟨0, [], ⟨hk.1, rfl⟩, rfl, h⟩ ?_
    rintro _ _ ⟨o1_1, o1_0, ⟨hi, rfl⟩, rfl, h⟩
    simp only [VW.down, Nat.reduceEqDiff, reduceCtorEq, Nat.reduceAdd, Nat.reduceLeDiff, Nat.reduceLT, Nat.reduceBEq, Nat.reduceSub, EE.down]
    refine condS (fun c2 => ?_) (fun c2 => ?_)
    · obtain ⟨xo1, hxo1, hd⟩ := countY c2
      rw [hd, F16_l1] at h
      simp only [VW.down, Nat.reduceEqDiff, reduceCtorEq, Nat.reduceAdd, Nat.reduceLeDiff, Nat.reduceLT, Nat.reduceBEq, Nat.reduceSub, EE.down]
      obtain ⟨o3, ho, h⟩ := Option.bind_eq_some_iff.1 h
      refine cutS (fun s => s = ⟨[(1, .one (.c (.d (.v (.int .i64 x1))))), (5, .one (.c (.own 0 0 0 (o3.length) none))), (8, .one (.c (.d (.sl (x0.map eWorkItem))))), (9, .one (.c (.d (.v (.int .i64 ((x0.length : Int))))))), (10, .one (.c (.d (.v (.int .i64 ((o1_1 : Int)))))))], [some (.arr 0 2 (o3.map eWorkItem))]⟩) ?_ ?_
      · have h := ho
        clear ho
        simp only [VW.down, Nat.reduceEqDiff, reduceCtorEq, Nat.reduceAdd, Nat.reduceLeDiff, Nat.reduceLT, Nat.reduceBEq, Nat.reduceSub, EE.down]
        refine t_idxF (enc := eWorkItem) (xs := x0) rfl rfl hxo1 rfl ?_
        simp only [VW.down, Nat.reduceEqDiff, reduceCtorEq, Nat.reduceAdd, Nat.reduceLeDiff, Nat.reduceLT, Nat.reduceBEq, Nat.reduceSub, EE.down]
        refine condS (fun c4 => ?_) (fun c4 => ?_)
        · have h := (if_pos c4).symm.trans h
          simp only [VW.down, Nat.reduceEqDiff, reduceCtorEq, Nat.reduceAdd, Nat.reduceLeDiff, Nat.reduceLT, Nat.reduceBEq, Nat.reduceSub, EE.down]
          refine t_bslice (enc := eWorkItem) (ys := [xo1]) rfl rfl (by simp [A1.cells]) rfl ?_
          simp only [VW.down, Nat.reduceEqDiff, reduceCtorEq, Nat.reduceAdd, Nat.reduceLeDiff, Nat.reduceLT, Nat.reduceBEq, Nat.reduceSub, EE.down]
          obtain ⟨a5, ha5, h⟩ := Option.bind_eq_some_iff.1 h
          refine t_app (enc := eWorkItem) (xs := o1_0) rfl rfl (by first | rfl | simp only [List.length_set] | exact (clrL_len (slI_len (by assumption))).symm) rfl (rows_full (enc := eWorkItem) (by first | rfl | simp only [List.length_set] | exact (clrL_len (slI_len (by assumption))).symm) rfl) ha5 ?_
          simp only [VW.down, Nat.reduceEqDiff, reduceCtorEq, Nat.reduceAdd, Nat.reduceLeDiff, Nat.reduceLT, Nat.reduceBEq, Nat.reduceSub, EE.down]
          obtain rfl := Option.some.inj h
          exact eM [some 0] rfl
        · have h := (if_neg c4).symm.trans h
          simp only [VW.down, Nat.reduceEqDiff, reduceCtorEq, Nat.reduceAdd, Nat.reduceLeDiff, Nat.reduceLT, Nat.reduceBEq, Nat.reduceSub, EE.down]
          obtain rfl := Option.some.inj h
          exact eM [some 0] rfl
      · rintro _ rfl
        clear ho
        simp only [VW.down, Nat.reduceEqDiff, reduceCtorEq, Nat.reduceAdd, Nat.reduceLeDiff, Nat.reduceLT, Nat.reduceBEq, Nat.reduceSub, EE.down]
        rw [wrapN (by omega)]
        exact eL' (x0.length - (o1_1 + 1)) [some 0] ⟨o1_1 + 1, o3, ⟨by omega, rfl⟩, rfl, h⟩ (by omega)
    · rw [countN c2, F16_l1] at h
      simp only [VW.down, Nat.reduceEqDiff, reduceCtorEq, Nat.reduceAdd, Nat.reduceLeDiff, Nat.reduceLT, Nat.reduceBEq, Nat.reduceSub, EE.down]
      obtain rfl := Option.some.inj h
      exact eM [some 0] rfl
  · rintro _ rfl
    clear ho
    simp only [VW.down, Nat.reduceEqDiff, reduceCtorEq, Nat.reduceAdd, Nat.reduceLeDiff, Nat.reduceLT, Nat.reduceBEq, Nat.reduceSub, EE.down]
    obtain rfl := Option.some.inj h
    exact eF [some 0]
end Go.Proofs.Ytdpbdbclninjaaa
