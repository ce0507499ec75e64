/- Each Go function as a function over typed data, and its walk. -/
import Derived.Test.YtadhmlfnfgpjjaaCX2
namespace Go.Proofs.Ytadhmlfnfgpjjaa
open Go Go.Fw Go.Shelf
set_option maxRecDepth 100000
set_option maxHeartbeats 4000000
set_option linter.unusedSimpArgs false
set_option linter.unusedVariables false
/- orchestrator/orchestratorref03.Get -/
def F18_l1 (x1 : ByteArray) : List Label → Nat → Option ((ByteArray × Bool) ⊕ (Unit))
  | [], o1_0 => some (Sum.inr (()))
  | xo1 :: xs, o1_0 => (if xo1.Key = x1 then (some ((xo1.Value, true))).map Sum.inl else F18_l1 x1 xs (o1_0 + 1))
def F18 (x0 : (List Label)) (x1 : ByteArray) : Option (ByteArray × Bool) := (((ck (0 ≤ x0.length ∧ x0.length ≤ 4294967290)).bind fun u4 => F18_l1 x1 x0 0 : Option ((ByteArray × Bool) ⊕ (Unit))).bind fun o1 => match o1 with | Sum.inl f => some f | Sum.inr po1 => some (((⟨#[]⟩ : ByteArray), false)))
def a18 : AFn := ⟨25, [(.tmp 4), (.tmp 5)],
 (.seq (.reg [⟨(some 4), none, .mv (kS ⟨#[]⟩), [], (.new [])⟩,
   ⟨(some 5), none, .mv (kB false), [], (.new [])⟩])
 (.seq (.seq (.reg [⟨(some 6), none, .mv (kI 0), [], (.new [])⟩])
 (.sem (.block 0 (.loop (.seq (.seq (.reg [⟨(some 7), none, .mv (.t 6), [], (.new [])⟩,
   ⟨(some 8), none, .mv (.t 0), [], (.new [])⟩,
   ⟨(some 9), none, .len (.t 8), [], (.new [])⟩,
   ⟨(some 10), none, .bin .lss (.t 7) (.t 9), [], (.new [])⟩])
 (.cond (.t 10)
 .skip
 (.exit 0)))
 (.seq (.block 1 (.seq (.reg [⟨(some 13), none, .mv (.t 0), [], (.new [])⟩,
   ⟨(some 14), none, .mv (.t 6), [], (.new [])⟩,
   ⟨(some 15), none, .indexA 2 (.t 13) (.t 14), [], (.new [])⟩,
   ⟨(some 16), none, .fieldA 0 (.t 15), [], (.new [])⟩,
   ⟨(some 17), none, .load none (.t 16), [], (.new [])⟩,
   ⟨(some 18), none, .mv (.t 1), [], (.new [])⟩,
   ⟨(some 19), none, .bin .eql (.t 17) (.t 18), [], (.new [])⟩])
 (.cond (.t 19)
 (.seq (.reg [⟨(some 20), none, .mv (.t 0), [], (.new [])⟩,
   ⟨(some 21), none, .mv (.t 6), [], (.new [])⟩,
   ⟨(some 22), none, .indexA 2 (.t 20) (.t 21), [], (.new [])⟩,
   ⟨(some 23), none, .fieldA 1 (.t 22), [], (.new [])⟩,
   ⟨(some 24), none, .load none (.t 23), [], (.new [])⟩,
   ⟨(some 4), none, .mv (.t 24), [], (.new [])⟩,
   ⟨(some 5), none, .mv (kB true), [], (.new [])⟩])
 .ret)
 .skip)))
 (.reg [⟨(some 11), none, .mv (.t 6), [], (.new [])⟩,
   ⟨(some 12), none, .bin .add (.t 11) (kI 1), [], (.new [])⟩,
   ⟨(some 6), none, .mv (.t 12), [], (.new [])⟩])))))))
 (.seq (.reg [⟨(some 4), none, .mv (kS ⟨#[]⟩), [], (.new [])⟩,
   ⟨(some 5), none, .mv (kB false), [], (.new [])⟩])
 .ret)))⟩
theorem a18_ok : afn Try.prog 18 = some a18.er := by kernel_rfl
theorem F18_ok {x0 : (List Label)} {x1 : ByteArray} {r : ByteArray × Bool} (h : F18 x0 x1 = some r) : CallD Try.prog 18 [.c (.d (.sl (x0.map eLabel))), .c (.d (.v (.string x1)))] [] (tupV [.c (.d (.v (.string r.1))), .c (.d (.v (.bool r.2)))]) [] := by
  refine callS a18_ok (by simp [a18]) ?_
  rw [F18] at h
  simp only [a18, VW.down, Nat.reduceEqDiff, reduceCtorEq, Nat.reduceAdd, Nat.reduceLeDiff, Nat.reduceLT, Nat.reduceBEq, Nat.reduceSub, EE.down]
  obtain ⟨o1, ho, h⟩ := Option.bind_eq_some_iff.1 h
  refine cutS (fun s => ∃ po1, o1 = Sum.inr po1 ∧ s = ⟨[], []⟩) ?_ ?_
  · have h0o1 := h
    have h := ho
    clear ho
    obtain ⟨_, hk, h⟩ := Option.bind_eq_some_iff.1 h
    have hk := ck_some hk
    simp only [VW.down, Nat.reduceEqDiff, reduceCtorEq, Nat.reduceAdd, Nat.reduceLeDiff, Nat.reduceLT, Nat.reduceBEq, Nat.reduceSub, EE.down]
    refine bL (fun j s => ∃ (o1_0 : Nat), (o1_0 ≤ x0.length ∧ j = x0.length - o1_0) ∧ s = ⟨[(0, .one (.c (.d (.sl (x0.map eLabel))))), (1, .one (.c (.d (.v (.string x1))))), (6, .one (.c (.d (.v (.int .i64 ((o1_0 : Int)))))))], []⟩ ∧ F18_l1 x1 (x0.drop o1_0) o1_0 = some o1) (x0.length - 0) [] ⟨0, ⟨hk.1, rfl⟩, rfl, h⟩ ?_
    rintro _ _ ⟨o1_0, ⟨hi, rfl⟩, rfl, h⟩
    simp only [VW.down, Nat.reduceEqDiff, reduceCtorEq, Nat.reduceAdd, Nat.reduceLeDiff, Nat.reduceLT, Nat.reduceBEq, Nat.reduceSub, EE.down]
    refine condS (fun c2 => ?_) (fun c2 => ?_)
    · obtain ⟨xo1, hxo1, hd⟩ := countY (show (o1_0 : Int) < (x0.length : Int) from c2)
      rw [hd, F18_l1] at h
      simp only [VW.down, Nat.reduceEqDiff, reduceCtorEq, Nat.reduceAdd, Nat.reduceLeDiff, Nat.reduceLT, Nat.reduceBEq, Nat.reduceSub, EE.down]
      refine t_idxF (enc := eLabel) (xs := x0) rfl rfl hxo1 rfl ?_
      simp only [VW.down, Nat.reduceEqDiff, reduceCtorEq, Nat.reduceAdd, Nat.reduceLeDiff, Nat.reduceLT, Nat.reduceBEq, Nat.reduceSub, EE.down]
      refine condS (fun c3 => ?_) (fun c3 => ?_)
      · have h := (if_pos c3).symm.trans h
        simp only [VW.down, Nat.reduceEqDiff, reduceCtorEq, Nat.reduceAdd, Nat.reduceLeDiff, Nat.reduceLT, Nat.reduceBEq, Nat.reduceSub, EE.down]
        refine t_idxF (enc := eLabel) (xs := x0) rfl rfl hxo1 rfl ?_
        simp only [VW.down, Nat.reduceEqDiff, reduceCtorEq, Nat.reduceAdd, Nat.reduceLeDiff, Nat.reduceLT, Nat.reduceBEq, Nat.reduceSub, EE.down]
        obtain ⟨fh0o1, hfh0o1, rfl⟩ := Option.map_eq_some_iff.1 h
        have h := hfh0o1.trans h0o1
        obtain rfl := Option.some.inj h
        exact eF []
      · have h := (if_neg c3).symm.trans h
        simp only [VW.down, Nat.reduceEqDiff, reduceCtorEq, Nat.reduceAdd, Nat.reduceLeDiff, Nat.reduceLT, Nat.reduceBEq, Nat.reduceSub, EE.down]
        rw [wrapN (by omega)]
        exact eL' (x0.length - (o1_0 + 1)) [] ⟨o1_0 + 1, ⟨by omega, rfl⟩, rfl, h⟩ (by omega)
    · rw [countN (show ¬ ((o1_0 : Int) < (x0.length : Int)) from c2), F18_l1] at h
      simp only [VW.down, Nat.reduceEqDiff, reduceCtorEq, Nat.reduceAdd, Nat.reduceLeDiff, Nat.reduceLT, Nat.reduceBEq, Nat.reduceSub, EE.down]
      obtain rfl := Option.some.inj h
      exact eM [] ⟨_, rfl, rfl⟩
  · rintro _ ⟨po1, rfl, rfl⟩
    clear ho
    dsimp only at h
    simp only [VW.down, Nat.reduceEqDiff, reduceCtorEq, Nat.reduceAdd, Nat.reduceLeDiff, Nat.reduceLT, Nat.reduceBEq, Nat.reduceSub, EE.down]
    obtain rfl := Option.some.inj h
    exact eF []

/- orchestrator/orchestratorref03.among -/
def F58_l1 (x1 : ByteArray) : List ByteArray → Nat → Option ((Bool) ⊕ (Unit))
  | [], o1_0 => some (Sum.inr (()))
  | xo1 :: xs, o1_0 => (if xo1 = x1 then (some true).map Sum.inl else F58_l1 x1 xs (o1_0 + 1))
def F58 (x0 : (List ByteArray)) (x1 : ByteArray) : Option (Bool) := (((ck (0 ≤ x0.length ∧ x0.length ≤ 4294967290)).bind fun u4 => F58_l1 x1 x0 0 : Option ((Bool) ⊕ (Unit))).bind fun o1 => match o1 with | Sum.inl f => some f | Sum.inr po1 => some false)
def a58 : AFn := ⟨18, [(.tmp 4)],
 (.seq (.reg [⟨(some 4), none, .mv (kB false), [], (.new [])⟩])
 (.seq (.seq (.reg [⟨(some 5), none, .mv (kI 0), [], (.new [])⟩])
 (.sem (.block 0 (.loop (.seq (.seq (.reg [⟨(some 6), none, .mv (.t 5), [], (.new [])⟩,
   ⟨(some 7), none, .mv (.t 0), [], (.new [])⟩,
   ⟨(some 8), none, .len (.t 7), [], (.new [])⟩,
   ⟨(some 9), none, .bin .lss (.t 6) (.t 8), [], (.new [])⟩])
 (.cond (.t 9)
 .skip
 (.exit 0)))
 (.seq (.block 1 (.seq (.reg [⟨(some 12), none, .mv (.t 0), [], (.new [])⟩,
   ⟨(some 13), none, .mv (.t 5), [], (.new [])⟩,
   ⟨(some 14), none, .indexA 1 (.t 12) (.t 13), [], (.new [])⟩,
   ⟨(some 15), none, .load none (.t 14), [], (.new [])⟩,
   ⟨(some 16), none, .mv (.t 1), [], (.new [])⟩,
   ⟨(some 17), none, .bin .eql (.t 15) (.t 16), [], (.new [])⟩])
 (.cond (.t 17)
 (.seq (.reg [⟨(some 4), none, .mv (kB true), [], (.new [])⟩])
 .ret)
 .skip)))
 (.reg [⟨(some 10), none, .mv (.t 5), [], (.new [])⟩,
   ⟨(some 11), none, .bin .add (.t 10) (kI 1), [], (.new [])⟩,
   ⟨(some 5), none, .mv (.t 11), [], (.new [])⟩])))))))
 (.seq (.reg [⟨(some 4), none, .mv (kB false), [], (.new [])⟩])
 .ret)))⟩
theorem a58_ok : afn Try.prog 58 = some a58.er := by kernel_rfl
theorem F58_ok {x0 : (List ByteArray)} {x1 : ByteArray} {r : Bool} (h : F58 x0 x1 = some r) : CallD Try.prog 58 [.c (.d (.sl (x0.map eS))), .c (.d (.v (.string x1)))] [] (tupV [.c (.d (.v (.bool r)))]) [] := by
  refine callS a58_ok (by simp [a58]) ?_
  rw [F58] at h
  simp only [a58, VW.down, Nat.reduceEqDiff, reduceCtorEq, Nat.reduceAdd, Nat.reduceLeDiff, Nat.reduceLT, Nat.reduceBEq, Nat.reduceSub, EE.down]
  obtain ⟨o1, ho, h⟩ := Option.bind_eq_some_iff.1 h
  refine cutS (fun s => ∃ po1, o1 = Sum.inr po1 ∧ s = ⟨[], []⟩) ?_ ?_
  · have h0o1 := h
    have h := ho
    clear ho
    obtain ⟨_, hk, h⟩ := Option.bind_eq_some_iff.1 h
    have hk := ck_some hk
    simp only [VW.down, Nat.reduceEqDiff, reduceCtorEq, Nat.reduceAdd, Nat.reduceLeDiff, Nat.reduceLT, Nat.reduceBEq, Nat.reduceSub, EE.down]
    refine bL (fun j s => ∃ (o1_0 : Nat), (o1_0 ≤ x0.length ∧ j = x0.length - o1_0) ∧ s = ⟨[(0, .one (.c (.d (.sl (x0.map eS))))), (1, .one (.c (.d (.v (.string x1))))), (5, .one (.c (.d (.v (.int .i64 ((o1_0 : Int)))))))], []⟩ ∧ F58_l1 x1 (x0.drop o1_0) o1_0 = some o1) (x0.length - 0) [] ⟨0, ⟨hk.1, rfl⟩, rfl, h⟩ ?_
    rintro _ _ ⟨o1_0, ⟨hi, rfl⟩, rfl, h⟩
    simp only [VW.down, Nat.reduceEqDiff, reduceCtorEq, Nat.reduceAdd, Nat.reduceLeDiff, Nat.reduceLT, Nat.reduceBEq, Nat.reduceSub, EE.down]
    refine condS (fun c2 => ?_) (fun c2 => ?_)
    · obtain ⟨xo1, hxo1, hd⟩ := countY (show (o1_0 : Int) < (x0.length : Int) from c2)
      rw [hd, F58_l1] at h
      simp only [VW.down, Nat.reduceEqDiff, reduceCtorEq, Nat.reduceAdd, Nat.reduceLeDiff, Nat.reduceLT, Nat.reduceBEq, Nat.reduceSub, EE.down]
      refine t_idxF (enc := eS) (xs := x0) rfl rfl hxo1 rfl ?_
      simp only [VW.down, Nat.reduceEqDiff, reduceCtorEq, Nat.reduceAdd, Nat.reduceLeDiff, Nat.reduceLT, Nat.reduceBEq, Nat.reduceSub, EE.down]
      refine condS (fun c3 => ?_) (fun c3 => ?_)
      · have h := (if_pos c3).symm.trans h
        simp only [VW.down, Nat.reduceEqDiff, reduceCtorEq, Nat.reduceAdd, Nat.reduceLeDiff, Nat.reduceLT, Nat.reduceBEq, Nat.reduceSub, EE.down]
        obtain ⟨fh0o1, hfh0o1, rfl⟩ := Option.map_eq_some_iff.1 h
        have h := hfh0o1.trans h0o1
        obtain rfl := Option.some.inj h
        exact eF []
      · have h := (if_neg c3).symm.trans h
        simp only [VW.down, Nat.reduceEqDiff, reduceCtorEq, Nat.reduceAdd, Nat.reduceLeDiff, Nat.reduceLT, Nat.reduceBEq, Nat.reduceSub, EE.down]
        rw [wrapN (by omega)]
        exact eL' (x0.length - (o1_0 + 1)) [] ⟨o1_0 + 1, ⟨by omega, rfl⟩, rfl, h⟩ (by omega)
    · rw [countN (show ¬ ((o1_0 : Int) < (x0.length : Int)) from c2), F58_l1] at h
      simp only [VW.down, Nat.reduceEqDiff, reduceCtorEq, Nat.reduceAdd, Nat.reduceLeDiff, Nat.reduceLT, Nat.reduceBEq, Nat.reduceSub, EE.down]
      obtain rfl := Option.some.inj h
      exact eM [] ⟨_, rfl, rfl⟩
  · rintro _ ⟨po1, rfl, rfl⟩
    clear ho
    dsimp only at h
    simp only [VW.down, Nat.reduceEqDiff, reduceCtorEq, Nat.reduceAdd, Nat.reduceLeDiff, Nat.reduceLT, Nat.reduceBEq, Nat.reduceSub, EE.down]
    obtain rfl := Option.some.inj h
    exact eF []

/- orchestrator/orchestratorref03.holds -/
def F39 (x0 : Requirement) (x1 : (List Label)) : Option (Bool) := (F18 x1 x0.Key).bind fun t1 => (if x0.Op = 1 then (((if t1.2 = true then (F58 x0.Values t1.1).bind fun t5 => some t5 else some false)).bind fun o3 => some o3) else (if x0.Op = 2 then (((if (nb t1.2) = true then some true else (F58 x0.Values t1.1).bind fun t9 => some (nb t9))).bind fun o7 => some o7) else (((if x0.Op = 3 then (if t1.2 = true then some true else (if x0.Op = 4 then some (nb t1.2) else some false)) else (if x0.Op = 4 then some (nb t1.2) else some false))).bind fun o10 => some o10)))
def a39 : AFn := ⟨51, [(.tmp 4)],
 (.seq (.reg [⟨(some 2), none, .box (.t 0), [], (.new [])⟩,
   ⟨(some 4), none, .mv (kB false), [], (.new [])⟩])
 (.seq (.reg [⟨(some 8), none, .mv (.t 1), [], (.new [])⟩,
   ⟨(some 9), none, .fieldA 0 (.t 2), [], (.new [])⟩,
   ⟨(some 10), none, .load none (.t 9), [], (.new [])⟩,
   ⟨(some 11), none, .call 18 [(.t 8), (.t 10)], [], (.new [])⟩,
   ⟨(some 7), none, .mv (.t 11), [], (.new [])⟩,
   ⟨(some 12), none, .ext (.t 7) 0, [], (.new [])⟩,
   ⟨(some 13), none, .ext (.t 7) 1, [], (.new [])⟩,
   ⟨(some 5), none, .mv (.t 12), [], (.new [])⟩,
   ⟨(some 6), none, .mv (.t 13), [], (.new [])⟩])
 (.seq (.seq (.reg [⟨(some 14), none, .fieldA 1 (.t 2), [], (.new [])⟩,
   ⟨(some 15), none, .load none (.t 14), [], (.new [])⟩,
   ⟨(some 16), none, .bin .eql (.t 15) (kI 1), [], (.new [])⟩])
 (.cond (.t 16)
 (.seq (.sem (.reg [⟨(some 17), none, .mv (.t 6), [], (.new [])⟩,
   ⟨(some 18), none, .mv (.t 17), [], (.new [])⟩,
   ⟨(some 19), (some (18, true)), .fieldA 2 (.t 2), [], (.new [])⟩,
   ⟨(some 20), (some (18, true)), .load none (.t 19), [], (.new [])⟩,
   ⟨(some 21), (some (18, true)), .mv (.t 5), [], (.new [])⟩,
   ⟨(some 22), (some (18, true)), .call 58 [(.t 20), (.t 21)], [], (.new [])⟩,
   ⟨(some 23), none, .pick (.t 18) (.t 22) (kB false), [], (.new [])⟩,
   ⟨(some 4), none, .mv (.t 23), [], (.new [])⟩]))
 .ret)
 .skip))
 (.seq (.seq (.reg [⟨(some 24), none, .fieldA 1 (.t 2), [], (.new [])⟩,
   ⟨(some 25), none, .load none (.t 24), [], (.new [])⟩,
   ⟨(some 26), none, .bin .eql (.t 25) (kI 2), [], (.new [])⟩])
 (.cond (.t 26)
 (.seq (.sem (.reg [⟨(some 27), none, .mv (.t 6), [], (.new [])⟩,
   ⟨(some 28), none, .not (.t 27), [], (.new [])⟩,
   ⟨(some 29), none, .mv (.t 28), [], (.new [])⟩,
   ⟨(some 30), (some (29, false)), .fieldA 2 (.t 2), [], (.new [])⟩,
   ⟨(some 31), (some (29, false)), .load none (.t 30), [], (.new [])⟩,
   ⟨(some 32), (some (29, false)), .mv (.t 5), [], (.new [])⟩,
   ⟨(some 33), (some (29, false)), .call 58 [(.t 31), (.t 32)], [], (.new [])⟩,
   ⟨(some 34), (some (29, false)), .not (.t 33), [], (.new [])⟩,
   ⟨(some 35), none, .pick (.t 29) (kB true) (.t 34), [], (.new [])⟩,
   ⟨(some 4), none, .mv (.t 35), [], (.new [])⟩]))
 .ret)
 .skip))
 (.seq (.sem (.reg [⟨(some 36), none, .fieldA 1 (.t 2), [], (.new [])⟩,
   ⟨(some 37), none, .load none (.t 36), [], (.new [])⟩,
   ⟨(some 38), none, .bin .eql (.t 37) (kI 3), [], (.new [])⟩,
   ⟨(some 39), none, .mv (.t 38), [], (.new [])⟩,
   ⟨(some 40), (some (39, true)), .mv (.t 6), [], (.new [])⟩,
   ⟨(some 41), none, .pick (.t 39) (.t 40) (kB false), [], (.new [])⟩,
   ⟨(some 42), none, .mv (.t 41), [], (.new [])⟩,
   ⟨(some 43), (some (42, false)), .fieldA 1 (.t 2), [], (.new [])⟩,
   ⟨(some 44), (some (42, false)), .load none (.t 43), [], (.new [])⟩,
   ⟨(some 45), (some (42, false)), .bin .eql (.t 44) (kI 4), [], (.new [])⟩,
   ⟨(some 46), (some (42, false)), .mv (.t 45), [], (.new [])⟩,
   ⟨(some 47), (some (46, true)), .mv (.t 6), [], (.new [])⟩,
   ⟨(some 48), (some (46, true)), .not (.t 47), [], (.new [])⟩,
   ⟨(some 49), (some (42, false)), .pick (.t 46) (.t 48) (kB false), [], (.new [])⟩,
   ⟨(some 50), none, .pick (.t 42) (kB true) (.t 49), [], (.new [])⟩,
   ⟨(some 4), none, .mv (.t 50), [], (.new [])⟩]))
 .ret)))))⟩
theorem a39_ok : afn Try.prog 39 = some a39.er := by kernel_rfl
theorem F39_ok {x0 : Requirement} {x1 : (List Label)} {r : Bool} (h : F39 x0 x1 = some r) : CallD Try.prog 39 [.agg [.d (.v (.string x0.Key)), .d (.v (.int .i64 x0.Op)), .d (.sl (x0.Values.map eS))], .c (.d (.sl (x1.map eLabel)))] [] (tupV [.c (.d (.v (.bool r)))]) [] := by
  refine callS a39_ok (by simp [a39]) ?_
  rw [F39] at h
  simp only [a39, VW.down, Nat.reduceEqDiff, reduceCtorEq, Nat.reduceAdd, Nat.reduceLeDiff, Nat.reduceLT, Nat.reduceBEq, Nat.reduceSub, EE.down]
  obtain ⟨t1, ht1, h⟩ := Option.bind_eq_some_iff.1 h
  refine callX_n [] (F18_ok ht1) ?_ ?_ ?_ ?_ ?_ ?_
  · first | rfl | simp [nrmA, nrmC, nrm, A1.ren, C.ren, rn, List.length_set]
  · simp [liveAll, A1.live, C.live]
  · rfl
  · decide
  · exact trivial
  simp only [VW.down, Nat.reduceEqDiff, reduceCtorEq, Nat.reduceAdd, Nat.reduceLeDiff, Nat.reduceLT, Nat.reduceBEq, Nat.reduceSub, EE.down]
  refine condS (fun c2 => ?_) (fun c2 => ?_)
  · have h := (if_pos c2).symm.trans h
    simp only [VW.down, Nat.reduceEqDiff, reduceCtorEq, Nat.reduceAdd, Nat.reduceLeDiff, Nat.reduceLT, Nat.reduceBEq, Nat.reduceSub, EE.down]
    obtain ⟨o3, ho, h⟩ := Option.bind_eq_some_iff.1 h
    refine cutS (fun s => s = ⟨[(4, .one (.c (.d (.v (.bool o3)))))], []⟩) ?_ ?_
    · have h := ho
      clear ho
      simp only [VW.down, Nat.reduceEqDiff, reduceCtorEq, Nat.reduceAdd, Nat.reduceLeDiff, Nat.reduceLT, Nat.reduceBEq, Nat.reduceSub, EE.down]
      refine guardSB (fun g4 => ?_) (fun g4 => ?_)
      · have h := (if_pos g4).symm.trans h
        simp only [VW.down, Nat.reduceEqDiff, reduceCtorEq, Nat.reduceAdd, Nat.reduceLeDiff, Nat.reduceLT, Nat.reduceBEq, Nat.reduceSub, EE.down]
        obtain ⟨t5, ht5, h⟩ := Option.bind_eq_some_iff.1 h
        refine callX_n [] (F58_ok ht5) ?_ ?_ ?_ ?_ ?_ ?_
        · first | rfl | simp [nrmA, nrmC, nrm, A1.ren, C.ren, rn, List.length_set]
        · simp [liveAll, A1.live, C.live]
        · rfl
        · decide
        · exact trivial
        simp only [VW.down, Nat.reduceEqDiff, reduceCtorEq, Nat.reduceAdd, Nat.reduceLeDiff, Nat.reduceLT, Nat.reduceBEq, Nat.reduceSub, EE.down]
        obtain rfl := Option.some.inj h
        exact eM [] rfl
      · have h := (if_neg g4).symm.trans h
        simp only [VW.down, Nat.reduceEqDiff, reduceCtorEq, Nat.reduceAdd, Nat.reduceLeDiff, Nat.reduceLT, Nat.reduceBEq, Nat.reduceSub, EE.down]
        obtain rfl := Option.some.inj h
        exact eM [] rfl
    · rintro _ rfl
      clear ho
      simp only [VW.down, Nat.reduceEqDiff, reduceCtorEq, Nat.reduceAdd, Nat.reduceLeDiff, Nat.reduceLT, Nat.reduceBEq, Nat.reduceSub, EE.down]
      obtain rfl := Option.some.inj h
      exact eF []
  · have h := (if_neg c2).symm.trans h
    simp only [VW.down, Nat.reduceEqDiff, reduceCtorEq, Nat.reduceAdd, Nat.reduceLeDiff, Nat.reduceLT, Nat.reduceBEq, Nat.reduceSub, EE.down]
    refine condS (fun c6 => ?_) (fun c6 => ?_)
    · have h := (if_pos c6).symm.trans h
      simp only [VW.down, Nat.reduceEqDiff, reduceCtorEq, Nat.reduceAdd, Nat.reduceLeDiff, Nat.reduceLT, Nat.reduceBEq, Nat.reduceSub, EE.down]
      obtain ⟨o7, ho, h⟩ := Option.bind_eq_some_iff.1 h
      refine cutS (fun s => s = ⟨[(4, .one (.c (.d (.v (.bool o7)))))], []⟩) ?_ ?_
      · have h := ho
        clear ho
        simp only [VW.down, Nat.reduceEqDiff, reduceCtorEq, Nat.reduceAdd, Nat.reduceLeDiff, Nat.reduceLT, Nat.reduceBEq, Nat.reduceSub, EE.down]
        refine guardSB (fun g8 => ?_) (fun g8 => ?_)
        · have h := (if_pos g8).symm.trans h
          simp only [VW.down, Nat.reduceEqDiff, reduceCtorEq, Nat.reduceAdd, Nat.reduceLeDiff, Nat.reduceLT, Nat.reduceBEq, Nat.reduceSub, EE.down]
          obtain rfl := Option.some.inj h
          exact eM [] rfl
        · have h := (if_neg g8).symm.trans h
          simp only [VW.down, Nat.reduceEqDiff, reduceCtorEq, Nat.reduceAdd, Nat.reduceLeDiff, Nat.reduceLT, Nat.reduceBEq, Nat.reduceSub, EE.down]
          obtain ⟨t9, ht9, h⟩ := Option.bind_eq_some_iff.1 h
          refine callX_n [] (F58_ok ht9) ?_ ?_ ?_ ?_ ?_ ?_
          · first | rfl | simp [nrmA, nrmC, nrm, A1.ren, C.ren, rn, List.length_set]
          · simp [liveAll, A1.live, C.live]
          · rfl
          · decide
          · exact trivial
          simp only [VW.down, Nat.reduceEqDiff, reduceCtorEq, Nat.reduceAdd, Nat.reduceLeDiff, Nat.reduceLT, Nat.reduceBEq, Nat.reduceSub, EE.down]
          obtain rfl := Option.some.inj h
          exact eM [] rfl
      · rintro _ rfl
        clear ho
        simp only [VW.down, Nat.reduceEqDiff, reduceCtorEq, Nat.reduceAdd, Nat.reduceLeDiff, Nat.reduceLT, Nat.reduceBEq, Nat.reduceSub, EE.down]
        obtain rfl := Option.some.inj h
        exact eF []
    · have h := (if_neg c6).symm.trans h
      simp only [VW.down, Nat.reduceEqDiff, reduceCtorEq, Nat.reduceAdd, Nat.reduceLeDiff, Nat.reduceLT, Nat.reduceBEq, Nat.reduceSub, EE.down]
      obtain ⟨o10, ho, h⟩ := Option.bind_eq_some_iff.1 h
      refine cutS (fun s => s = ⟨[(4, .one (.c (.d (.v (.bool o10)))))], []⟩) ?_ ?_
      · have h := ho
        clear ho
        simp only [VW.down, Nat.reduceEqDiff, reduceCtorEq, Nat.reduceAdd, Nat.reduceLeDiff, Nat.reduceLT, Nat.reduceBEq, Nat.reduceSub, EE.down]
        refine guardS (fun g11 => ?_) (fun g11 => ?_)
        · have h := (if_pos g11).symm.trans h
          simp only [VW.down, Nat.reduceEqDiff, reduceCtorEq, Nat.reduceAdd, Nat.reduceLeDiff, Nat.reduceLT, Nat.reduceBEq, Nat.reduceSub, EE.down]
          refine guardSB (fun g12 => ?_) (fun g12 => ?_)
          · have h := (if_pos g12).symm.trans h
            simp only [VW.down, Nat.reduceEqDiff, reduceCtorEq, Nat.reduceAdd, Nat.reduceLeDiff, Nat.reduceLT, Nat.reduceBEq, Nat.reduceSub, EE.down]
            obtain rfl := Option.some.inj h
            exact eM [] rfl
          · have h := (if_neg g12).symm.trans h
            simp only [VW.down, Nat.reduceEqDiff, reduceCtorEq, Nat.reduceAdd, Nat.reduceLeDiff, Nat.reduceLT, Nat.reduceBEq, Nat.reduceSub, EE.down]
            refine guardS (fun g13 => ?_) (fun g13 => ?_)
            · have h := (if_pos g13).symm.trans h
              simp only [VW.down, Nat.reduceEqDiff, reduceCtorEq, Nat.reduceAdd, Nat.reduceLeDiff, Nat.reduceLT, Nat.reduceBEq, Nat.reduceSub, EE.down]
              obtain rfl := Option.some.inj h
              exact eM [] rfl
            · have h := (if_neg g13).symm.trans h
              simp only [VW.down, Nat.reduceEqDiff, reduceCtorEq, Nat.reduceAdd, Nat.reduceLeDiff, Nat.reduceLT, Nat.reduceBEq, Nat.reduceSub, EE.down]
              obtain rfl := Option.some.inj h
              exact eM [] rfl
        · have h := (if_neg g11).symm.trans h
          simp only [VW.down, Nat.reduceEqDiff, reduceCtorEq, Nat.reduceAdd, Nat.reduceLeDiff, Nat.reduceLT, Nat.reduceBEq, Nat.reduceSub, EE.down]
          refine guardS (fun g14 => ?_) (fun g14 => ?_)
          · have h := (if_pos g14).symm.trans h
            simp only [VW.down, Nat.reduceEqDiff, reduceCtorEq, Nat.reduceAdd, Nat.reduceLeDiff, Nat.reduceLT, Nat.reduceBEq, Nat.reduceSub, EE.down]
            obtain rfl := Option.some.inj h
            exact eM [] rfl
          · have h := (if_neg g14).symm.trans h
            simp only [VW.down, Nat.reduceEqDiff, reduceCtorEq, Nat.reduceAdd, Nat.reduceLeDiff, Nat.reduceLT, Nat.reduceBEq, Nat.reduceSub, EE.down]
            obtain rfl := Option.some.inj h
            exact eM [] rfl
      · rintro _ rfl
        clear ho
        simp only [VW.down, Nat.reduceEqDiff, reduceCtorEq, Nat.reduceAdd, Nat.reduceLeDiff, Nat.reduceLT, Nat.reduceBEq, Nat.reduceSub, EE.down]
        obtain rfl := Option.some.inj h
        exact eF []

/- orchestrator/orchestratorref03.Matches -/
def F23_l1 (x1 : (List Label)) : List Requirement → Nat → Option ((Bool) ⊕ (Unit))
  | [], o1_0 => some (Sum.inr (()))
  | xo1 :: xs, o1_0 => (F39 xo1 x1).bind fun t3 => (if (nb t3) = true then (some false).map Sum.inl else F23_l1 x1 xs (o1_0 + 1))
def F23 (x0 : (List Requirement)) (x1 : (List Label)) : Option (Bool) := (((ck (0 ≤ x0.length ∧ x0.length ≤ 4294967290)).bind fun u5 => F23_l1 x1 x0 0 : Option ((Bool) ⊕ (Unit))).bind fun o1 => match o1 with | Sum.inl f => some f | Sum.inr po1 => some true)
def a23 : AFn := ⟨19, [(.tmp 4)],
 (.seq (.reg [⟨(some 4), none, .mv (kB false), [], (.new [])⟩])
 (.seq (.seq (.reg [⟨(some 5), none, .mv (kI 0), [], (.new [])⟩])
 (.sem (.block 0 (.loop (.seq (.seq (.reg [⟨(some 6), none, .mv (.t 5), [], (.new [])⟩,
   ⟨(some 7), none, .mv (.t 0), [], (.new [])⟩,
   ⟨(some 8), none, .len (.t 7), [], (.new [])⟩,
   ⟨(some 9), none, .bin .lss (.t 6) (.t 8), [], (.new [])⟩])
 (.cond (.t 9)
 .skip
 (.exit 0)))
 (.seq (.block 1 (.seq (.reg [⟨(some 12), none, .mv (.t 0), [], (.new [])⟩,
   ⟨(some 13), none, .mv (.t 5), [], (.new [])⟩,
   ⟨(some 14), none, .indexA 3 (.t 12) (.t 13), [], (.new [])⟩,
   ⟨(some 15), none, .load (some 3) (.t 14), [], (.new [])⟩,
   ⟨(some 16), none, .mv (.t 1), [], (.new [])⟩,
   ⟨(some 17), none, .call 39 [(.t 15), (.t 16)], [], (.new [])⟩,
   ⟨(some 18), none, .not (.t 17), [], (.new [])⟩])
 (.cond (.t 18)
 (.seq (.reg [⟨(some 4), none, .mv (kB false), [], (.new [])⟩])
 .ret)
 .skip)))
 (.reg [⟨(some 10), none, .mv (.t 5), [], (.new [])⟩,
   ⟨(some 11), none, .bin .add (.t 10) (kI 1), [], (.new [])⟩,
   ⟨(some 5), none, .mv (.t 11), [], (.new [])⟩])))))))
 (.seq (.reg [⟨(some 4), none, .mv (kB true), [], (.new [])⟩])
 .ret)))⟩
theorem a23_ok : afn Try.prog 23 = some a23.er := by kernel_rfl
theorem F23_ok {x0 : (List Requirement)} {x1 : (List Label)} {r : Bool} (h : F23 x0 x1 = some r) : CallD Try.prog 23 [.c (.d (.sl (x0.map eRequirement))), .c (.d (.sl (x1.map eLabel)))] [] (tupV [.c (.d (.v (.bool r)))]) [] := by
  refine callS a23_ok (by simp [a23]) ?_
  rw [F23] at h
  simp only [a23, VW.down, Nat.reduceEqDiff, reduceCtorEq, Nat.reduceAdd, Nat.reduceLeDiff, Nat.reduceLT, Nat.reduceBEq, Nat.reduceSub, EE.down]
  obtain ⟨o1, ho, h⟩ := Option.bind_eq_some_iff.1 h
  refine cutS (fun s => ∃ po1, o1 = Sum.inr po1 ∧ s = ⟨[], []⟩) ?_ ?_
  · have h0o1 := h
    have h := ho
    clear ho
    obtain ⟨_, hk, h⟩ := Option.bind_eq_some_iff.1 h
    have hk := ck_some hk
    simp only [VW.down, Nat.reduceEqDiff, reduceCtorEq, Nat.reduceAdd, Nat.reduceLeDiff, Nat.reduceLT, Nat.reduceBEq, Nat.reduceSub, EE.down]
    refine bL (fun j s => ∃ (o1_0 : Nat), (o1_0 ≤ x0.length ∧ j = x0.length - o1_0) ∧ s = ⟨[(0, .one (.c (.d (.sl (x0.map eRequirement))))), (1, .one (.c (.d (.sl (x1.map eLabel))))), (5, .one (.c (.d (.v (.int .i64 ((o1_0 : Int)))))))], []⟩ ∧ F23_l1 x1 (x0.drop o1_0) o1_0 = some o1) (x0.length - 0) [] ⟨0, ⟨hk.1, rfl⟩, rfl, h⟩ ?_
    rintro _ _ ⟨o1_0, ⟨hi, rfl⟩, rfl, h⟩
    simp only [VW.down, Nat.reduceEqDiff, reduceCtorEq, Nat.reduceAdd, Nat.reduceLeDiff, Nat.reduceLT, Nat.reduceBEq, Nat.reduceSub, EE.down]
    refine condS (fun c2 => ?_) (fun c2 => ?_)
    · obtain ⟨xo1, hxo1, hd⟩ := countY (show (o1_0 : Int) < (x0.length : Int) from c2)
      rw [hd, F23_l1] at h
      simp only [VW.down, Nat.reduceEqDiff, reduceCtorEq, Nat.reduceAdd, Nat.reduceLeDiff, Nat.reduceLT, Nat.reduceBEq, Nat.reduceSub, EE.down]
      refine t_idxF (enc := eRequirement) (xs := x0) rfl rfl hxo1 rfl ?_
      simp only [VW.down, Nat.reduceEqDiff, reduceCtorEq, Nat.reduceAdd, Nat.reduceLeDiff, Nat.reduceLT, Nat.reduceBEq, Nat.reduceSub, EE.down]
      obtain ⟨t3, ht3, h⟩ := Option.bind_eq_some_iff.1 h
      refine callX_n [] (F39_ok ht3) ?_ ?_ ?_ ?_ ?_ ?_
      · first | rfl | simp [nrmA, nrmC, nrm, A1.ren, C.ren, rn, List.length_set]
      · simp [liveAll, A1.live, C.live]
      · rfl
      · decide
      · exact trivial
      simp only [VW.down, Nat.reduceEqDiff, reduceCtorEq, Nat.reduceAdd, Nat.reduceLeDiff, Nat.reduceLT, Nat.reduceBEq, Nat.reduceSub, EE.down]
      refine condB (fun c4 => ?_) (fun c4 => ?_)
      · have h := (if_pos c4).symm.trans h
        simp only [VW.down, Nat.reduceEqDiff, reduceCtorEq, Nat.reduceAdd, Nat.reduceLeDiff, Nat.reduceLT, Nat.reduceBEq, Nat.reduceSub, EE.down]
        obtain ⟨fh0o1, hfh0o1, rfl⟩ := Option.map_eq_some_iff.1 h
        have h := hfh0o1.trans h0o1
        obtain rfl := Option.some.inj h
        exact eF []
      · have h := (if_neg c4).symm.trans h
        simp only [VW.down, Nat.reduceEqDiff, reduceCtorEq, Nat.reduceAdd, Nat.reduceLeDiff, Nat.reduceLT, Nat.reduceBEq, Nat.reduceSub, EE.down]
        rw [wrapN (by omega)]
        exact eL' (x0.length - (o1_0 + 1)) [] ⟨o1_0 + 1, ⟨by omega, rfl⟩, rfl, h⟩ (by omega)
    · rw [countN (show ¬ ((o1_0 : Int) < (x0.length : Int)) from c2), F23_l1] at h
      simp only [VW.down, Nat.reduceEqDiff, reduceCtorEq, Nat.reduceAdd, Nat.reduceLeDiff, Nat.reduceLT, Nat.reduceBEq, Nat.reduceSub, EE.down]
      obtain rfl := Option.some.inj h
      exact eM [] ⟨_, rfl, rfl⟩
  · rintro _ ⟨po1, rfl, rfl⟩
    clear ho
    dsimp only at h
    simp only [VW.down, Nat.reduceEqDiff, reduceCtorEq, Nat.reduceAdd, Nat.reduceLeDiff, Nat.reduceLT, Nat.reduceBEq, Nat.reduceSub, EE.down]
    obtain rfl := Option.some.inj h
    exact eF []

/- orchestrator/orchestratorlaw03.LabelMatches -/
def F5 (x0 : (List Requirement)) (x1 : (List Label)) : Option (Bool) := (F11 x1 x0).bind fun t1 => (if (nb t1) = true then (F12).bind fun t3 => some t3 else (((F22 x0 x1).bind fun t5 => (F23 x0 x1).bind fun t6 => (if (((t5 == t6) != false)) = true then (F12).bind fun t8 => some t8 else some false)).bind fun o4 => some o4))
def a5 : AFn := ⟨20, [(.tmp 4)],
 (.seq (.reg [⟨(some 4), none, .mv (kB false), [], (.new [])⟩])
 (.seq (.seq (.reg [⟨(some 5), none, .mv (.t 1), [], (.new [])⟩,
   ⟨(some 6), none, .mv (.t 0), [], (.new [])⟩,
   ⟨(some 7), none, .call 11 [(.t 5), (.t 6)], [], (.new [])⟩,
   ⟨(some 8), none, .not (.t 7), [], (.new [])⟩])
 (.cond (.t 8)
 (.seq (.reg [⟨(some 9), none, .call 12 [], [], (.new [])⟩,
   ⟨(some 4), none, .mv (.t 9), [], (.new [])⟩])
 .ret)
 .skip))
 (.seq (.sem (.reg [⟨(some 10), none, .mv (.t 0), [], (.new [])⟩,
   ⟨(some 11), none, .mv (.t 1), [], (.new [])⟩,
   ⟨(some 12), none, .call 22 [(.t 10), (.t 11)], [], (.new [])⟩,
   ⟨(some 13), none, .mv (.t 0), [], (.new [])⟩,
   ⟨(some 14), none, .mv (.t 1), [], (.new [])⟩,
   ⟨(some 15), none, .call 23 [(.t 13), (.t 14)], [], (.new [])⟩,
   ⟨(some 16), none, .beq false (.t 12) (.t 15), [], (.new [])⟩,
   ⟨(some 17), none, .mv (.t 16), [], (.new [])⟩,
   ⟨(some 18), (some (17, true)), .call 12 [], [], (.new [])⟩,
   ⟨(some 19), none, .pick (.t 17) (.t 18) (kB false), [], (.new [])⟩,
   ⟨(some 4), none, .mv (.t 19), [], (.new [])⟩]))
 .ret)))⟩
theorem a5_ok : afn Try.prog 5 = some a5.er := by kernel_rfl
theorem F5_ok {x0 : (List Requirement)} {x1 : (List Label)} {r : Bool} (h : F5 x0 x1 = some r) : CallD Try.prog 5 [.c (.d (.sl (x0.map eRequirement))), .c (.d (.sl (x1.map eLabel)))] [] (tupV [.c (.d (.v (.bool r)))]) [] := by
  refine callS a5_ok (by simp [a5]) ?_
  rw [F5] at h
  simp only [a5, VW.down, Nat.reduceEqDiff, reduceCtorEq, Nat.reduceAdd, Nat.reduceLeDiff, Nat.reduceLT, Nat.reduceBEq, Nat.reduceSub, EE.down]
  obtain ⟨t1, ht1, h⟩ := Option.bind_eq_some_iff.1 h
  refine callX_n [] (F11_ok ht1) ?_ ?_ ?_ ?_ ?_ ?_
  · first | rfl | simp [nrmA, nrmC, nrm, A1.ren, C.ren, rn, List.length_set]
  · simp [liveAll, A1.live, C.live]
  · rfl
  · decide
  · exact trivial
  simp only [VW.down, Nat.reduceEqDiff, reduceCtorEq, Nat.reduceAdd, Nat.reduceLeDiff, Nat.reduceLT, Nat.reduceBEq, Nat.reduceSub, EE.down]
  refine condB (fun c2 => ?_) (fun c2 => ?_)
  · have h := (if_pos c2).symm.trans h
    simp only [VW.down, Nat.reduceEqDiff, reduceCtorEq, Nat.reduceAdd, Nat.reduceLeDiff, Nat.reduceLT, Nat.reduceBEq, Nat.reduceSub, EE.down]
    obtain ⟨t3, ht3, h⟩ := Option.bind_eq_some_iff.1 h
    refine callX_n [] (F12_ok ht3) ?_ ?_ ?_ ?_ ?_ ?_
    · first | rfl | simp [nrmA, nrmC, nrm, A1.ren, C.ren, rn, List.length_set]
    · simp [liveAll, A1.live, C.live]
    · rfl
    · decide
    · exact trivial
    simp only [VW.down, Nat.reduceEqDiff, reduceCtorEq, Nat.reduceAdd, Nat.reduceLeDiff, Nat.reduceLT, Nat.reduceBEq, Nat.reduceSub, EE.down]
    obtain rfl := Option.some.inj h
    exact eF []
  · have h := (if_neg c2).symm.trans h
    simp only [VW.down, Nat.reduceEqDiff, reduceCtorEq, Nat.reduceAdd, Nat.reduceLeDiff, Nat.reduceLT, Nat.reduceBEq, Nat.reduceSub, EE.down]
    obtain ⟨o4, ho, h⟩ := Option.bind_eq_some_iff.1 h
    refine cutS (fun s => s = ⟨[(4, .one (.c (.d (.v (.bool o4)))))], []⟩) ?_ ?_
    · have h := ho
      clear ho
      simp only [VW.down, Nat.reduceEqDiff, reduceCtorEq, Nat.reduceAdd, Nat.reduceLeDiff, Nat.reduceLT, Nat.reduceBEq, Nat.reduceSub, EE.down]
      obtain ⟨t5, ht5, h⟩ := Option.bind_eq_some_iff.1 h
      refine callX_n [] (F22_ok ht5) ?_ ?_ ?_ ?_ ?_ ?_
      · first | rfl | simp [nrmA, nrmC, nrm, A1.ren, C.ren, rn, List.length_set]
      · simp [liveAll, A1.live, C.live]
      · rfl
      · decide
      · exact trivial
      simp only [VW.down, Nat.reduceEqDiff, reduceCtorEq, Nat.reduceAdd, Nat.reduceLeDiff, Nat.reduceLT, Nat.reduceBEq, Nat.reduceSub, EE.down]
      obtain ⟨t6, ht6, h⟩ := Option.bind_eq_some_iff.1 h
      refine callX_n [] (F23_ok ht6) ?_ ?_ ?_ ?_ ?_ ?_
      · first | rfl | simp [nrmA, nrmC, nrm, A1.ren, C.ren, rn, List.length_set]
      · simp [liveAll, A1.live, C.live]
      · rfl
      · decide
      · exact trivial
      simp only [VW.down, Nat.reduceEqDiff, reduceCtorEq, Nat.reduceAdd, Nat.reduceLeDiff, Nat.reduceLT, Nat.reduceBEq, Nat.reduceSub, EE.down]
      refine guardSB (fun g7 => ?_) (fun g7 => ?_)
      · have h := (if_pos g7).symm.trans h
        simp only [VW.down, Nat.reduceEqDiff, reduceCtorEq, Nat.reduceAdd, Nat.reduceLeDiff, Nat.reduceLT, Nat.reduceBEq, Nat.reduceSub, EE.down]
        obtain ⟨t8, ht8, h⟩ := Option.bind_eq_some_iff.1 h
        refine callX_n [] (F12_ok ht8) ?_ ?_ ?_ ?_ ?_ ?_
        · first | rfl | simp [nrmA, nrmC, nrm, A1.ren, C.ren, rn, List.length_set]
        · simp [liveAll, A1.live, C.live]
        · rfl
        · decide
        · exact trivial
        simp only [VW.down, Nat.reduceEqDiff, reduceCtorEq, Nat.reduceAdd, Nat.reduceLeDiff, Nat.reduceLT, Nat.reduceBEq, Nat.reduceSub, EE.down]
        obtain rfl := Option.some.inj h
        exact eM [] rfl
      · have h := (if_neg g7).symm.trans h
        simp only [VW.down, Nat.reduceEqDiff, reduceCtorEq, Nat.reduceAdd, Nat.reduceLeDiff, Nat.reduceLT, Nat.reduceBEq, Nat.reduceSub, EE.down]
        obtain rfl := Option.some.inj h
        exact eM [] rfl
    · rintro _ rfl
      clear ho
      simp only [VW.down, Nat.reduceEqDiff, reduceCtorEq, Nat.reduceAdd, Nat.reduceLeDiff, Nat.reduceLT, Nat.reduceBEq, Nat.reduceSub, EE.down]
      obtain rfl := Option.some.inj h
      exact eF []

end Go.Proofs.Ytadhmlfnfgpjjaa
