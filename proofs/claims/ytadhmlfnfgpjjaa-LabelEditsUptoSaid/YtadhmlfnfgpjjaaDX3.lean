/- Each Go function as a function over typed data, and its walk. -/
import Derived.Test.YtadhmlfnfgpjjaaDX2
namespace Go.Proofs.Ytadhmlfnfgpjjaa
open Go Go.Fw Go.Shelf
set_option maxRecDepth 100000
set_option maxHeartbeats 4000000
set_option linter.unusedSimpArgs false
set_option linter.unusedVariables false
/- orchestrator/orchestratorref03.Same -/
def F19_l2 (x1 : (List Label)) : List Label → Nat → Option ((Bool) ⊕ (Unit))
  | [], o2_0 => some (Sum.inr (()))
  | xo2 :: xs, o2_0 => (rdI x1 ((o2_0 : Int))).bind fun y4 => (if ¬ (xo2.Key = y4.Key ∧ xo2.Value = y4.Value) then (some false).map Sum.inl else F19_l2 x1 xs (o2_0 + 1))
def F19 (x0 : (List Label)) (x1 : (List Label)) : Option (Bool) := (if ¬ ((x0.length : Int) = (x1.length : Int)) then some false else (((ck (0 ≤ x0.length ∧ x0.length ≤ 4294967290)).bind fun u6 => F19_l2 x1 x0 0 : Option ((Bool) ⊕ (Unit))).bind fun o2 => match o2 with | Sum.inl f => some f | Sum.inr po2 => some true))
def a19 : AFn := ⟨26, [(.tmp 4)],
 (.seq (.reg [⟨(some 4), none, .mv (kB false), [], (.new [])⟩])
 (.seq (.seq (.reg [⟨(some 6), none, .mv (.t 0), [], (.new [])⟩,
   ⟨(some 7), none, .len (.t 6), [], (.new [])⟩,
   ⟨(some 8), none, .mv (.t 1), [], (.new [])⟩,
   ⟨(some 9), none, .len (.t 8), [], (.new [])⟩,
   ⟨(some 10), none, .bin .neq (.t 7) (.t 9), [], (.new [])⟩])
 (.cond (.t 10)
 (.seq (.reg [⟨(some 4), none, .mv (kB false), [], (.new [])⟩])
 .ret)
 .skip))
 (.seq (.seq (.reg [⟨(some 5), none, .mv (kI 0), [], (.new [])⟩])
 (.sem (.block 0 (.loop (.seq (.seq (.reg [⟨(some 11), none, .mv (.t 5), [], (.new [])⟩,
   ⟨(some 12), none, .mv (.t 0), [], (.new [])⟩,
   ⟨(some 13), none, .len (.t 12), [], (.new [])⟩,
   ⟨(some 14), none, .bin .lss (.t 11) (.t 13), [], (.new [])⟩])
 (.cond (.t 14)
 .skip
 (.exit 0)))
 (.seq (.block 1 (.seq (.regd [⟨(some 17), none, .mv (.t 0), [], (.new [])⟩,
   ⟨(some 18), none, .mv (.t 5), [], (.new [])⟩,
   ⟨(some 19), none, .indexA 2 (.t 17) (.t 18), [0, 1], (.new [])⟩,
   ⟨(some 20), none, .load (some 2) (.t 19), [0, 1, 2], (.new [])⟩,
   ⟨(some 21), none, .mv (.t 1), [], (.new [])⟩,
   ⟨(some 22), none, .mv (.t 5), [], (.new [])⟩,
   ⟨(some 23), none, .indexA 2 (.t 21) (.t 22), [4, 5], (.new [])⟩,
   ⟨(some 24), none, .load (some 2) (.t 23), [4, 5, 6], (.new [])⟩,
   ⟨(some 25), none, .eqs true [(0, 2), (1, 2)] (.t 20) (.t 24), [0, 1, 2, 3, 4, 5, 6, 7], (.lone [])⟩])
 (.cond (.t 25)
 (.seq (.reg [⟨(some 4), none, .mv (kB false), [], (.new [])⟩])
 .ret)
 .skip)))
 (.reg [⟨(some 15), none, .mv (.t 5), [], (.new [])⟩,
   ⟨(some 16), none, .bin .add (.t 15) (kI 1), [], (.new [])⟩,
   ⟨(some 5), none, .mv (.t 16), [], (.new [])⟩])))))))
 (.seq (.reg [⟨(some 4), none, .mv (kB true), [], (.new [])⟩])
 .ret))))⟩
theorem a19_ok : afn Try.prog 19 = some a19.er := by kernel_rfl
theorem F19_ok {x0 : (List Label)} {x1 : (List Label)} {r : Bool} (h : F19 x0 x1 = some r) : CallD Try.prog 19 [.c (.d (.sl (x0.map eLabel))), .c (.d (.sl (x1.map eLabel)))] [] (tupV [.c (.d (.v (.bool r)))]) [] := by
  refine callS a19_ok (by simp [a19]) ?_
  rw [F19] at h
  simp only [a19, VW.down, Nat.reduceEqDiff, reduceCtorEq, Nat.reduceAdd, Nat.reduceLeDiff, Nat.reduceLT, Nat.reduceBEq, Nat.reduceSub, EE.down]
  refine condS (fun c1 => ?_) (fun c1 => ?_)
  · have h := (if_pos c1).symm.trans h
    simp only [VW.down, Nat.reduceEqDiff, reduceCtorEq, Nat.reduceAdd, Nat.reduceLeDiff, Nat.reduceLT, Nat.reduceBEq, Nat.reduceSub, EE.down]
    obtain rfl := Option.some.inj h
    exact eF []
  · have h := (if_neg c1).symm.trans h
    simp only [VW.down, Nat.reduceEqDiff, reduceCtorEq, Nat.reduceAdd, Nat.reduceLeDiff, Nat.reduceLT, Nat.reduceBEq, Nat.reduceSub, EE.down]
    obtain ⟨o2, ho, h⟩ := Option.bind_eq_some_iff.1 h
    refine cutS (fun s => ∃ po2, o2 = Sum.inr po2 ∧ s = ⟨[], []⟩) ?_ ?_
    · have h0o2 := h
      have h := ho
      clear ho
      obtain ⟨_, hk, h⟩ := Option.bind_eq_some_iff.1 h
      have hk := ck_some hk
      simp only [VW.down, Nat.reduceEqDiff, reduceCtorEq, Nat.reduceAdd, Nat.reduceLeDiff, Nat.reduceLT, Nat.reduceBEq, Nat.reduceSub, EE.down]
      refine bL (fun j s => ∃ (o2_0 : Nat), (o2_0 ≤ x0.length ∧ j = x0.length - o2_0) ∧ s = ⟨[(0, .one (.c (.d (.sl (x0.map eLabel))))), (1, .one (.c (.d (.sl (x1.map eLabel))))), (5, .one (.c (.d (.v (.int .i64 ((o2_0 : Int)))))))], []⟩ ∧ F19_l2 x1 (x0.drop o2_0) o2_0 = some o2) (x0.length - 0) [] ⟨0, ⟨hk.1, rfl⟩, rfl, h⟩ ?_
      rintro _ _ ⟨o2_0, ⟨hi, rfl⟩, rfl, h⟩
      simp only [VW.down, Nat.reduceEqDiff, reduceCtorEq, Nat.reduceAdd, Nat.reduceLeDiff, Nat.reduceLT, Nat.reduceBEq, Nat.reduceSub, EE.down]
      refine condS (fun c3 => ?_) (fun c3 => ?_)
      · obtain ⟨xo2, hxo2, hd⟩ := countY (show (o2_0 : Int) < (x0.length : Int) from c3)
        rw [hd, F19_l2] at h
        simp only [VW.down, Nat.reduceEqDiff, reduceCtorEq, Nat.reduceAdd, Nat.reduceLeDiff, Nat.reduceLT, Nat.reduceBEq, Nat.reduceSub, EE.down]
        refine t_idxF (enc := eLabel) (xs := x0) rfl rfl hxo2 rfl ?_
        simp only [VW.down, Nat.reduceEqDiff, reduceCtorEq, Nat.reduceAdd, Nat.reduceLeDiff, Nat.reduceLT, Nat.reduceBEq, Nat.reduceSub, EE.down]
        obtain ⟨y4, hy4, h⟩ := Option.bind_eq_some_iff.1 h
        refine t_idxF (enc := eLabel) (xs := x1) rfl rfl hy4 rfl ?_
        simp only [VW.down, Nat.reduceEqDiff, reduceCtorEq, Nat.reduceAdd, Nat.reduceLeDiff, Nat.reduceLT, Nat.reduceBEq, Nat.reduceSub, EE.down]
        refine condS (fun c5 => ?_) (fun c5 => ?_)
        · have h := (if_pos c5).symm.trans h
          simp only [VW.down, Nat.reduceEqDiff, reduceCtorEq, Nat.reduceAdd, Nat.reduceLeDiff, Nat.reduceLT, Nat.reduceBEq, Nat.reduceSub, EE.down]
          obtain ⟨fh0o2, hfh0o2, rfl⟩ := Option.map_eq_some_iff.1 h
          have h := hfh0o2.trans h0o2
          obtain rfl := Option.some.inj h
          exact eF []
        · have h := (if_neg c5).symm.trans h
          simp only [VW.down, Nat.reduceEqDiff, reduceCtorEq, Nat.reduceAdd, Nat.reduceLeDiff, Nat.reduceLT, Nat.reduceBEq, Nat.reduceSub, EE.down]
          rw [wrapN (by omega)]
          exact eL' (x0.length - (o2_0 + 1)) [] ⟨o2_0 + 1, ⟨by omega, rfl⟩, rfl, h⟩ (by omega)
      · rw [countN (show ¬ ((o2_0 : Int) < (x0.length : Int)) from c3), F19_l2] at h
        simp only [VW.down, Nat.reduceEqDiff, reduceCtorEq, Nat.reduceAdd, Nat.reduceLeDiff, Nat.reduceLT, Nat.reduceBEq, Nat.reduceSub, EE.down]
        obtain rfl := Option.some.inj h
        exact eM [] ⟨_, rfl, rfl⟩
    · rintro _ ⟨po2, rfl, rfl⟩
      clear ho
      dsimp only at h
      simp only [VW.down, Nat.reduceEqDiff, reduceCtorEq, Nat.reduceAdd, Nat.reduceLeDiff, Nat.reduceLT, Nat.reduceBEq, Nat.reduceSub, EE.down]
      obtain rfl := Option.some.inj h
      exact eF []

/- orchestrator/orchestratorlaw03.LabelEdits -/
def F9 (x0 : (List Label)) (x1 : ByteArray) (x2 : ByteArray) (x3 : ByteArray) : Option (Bool) := (((F11 x0 ([])).bind fun t2 => (if (nb t2) = true then some true else (if 200 < (x1.size : Int) then some true else (if 200 < (x2.size : Int) then some true else some (decide (200 < (x3.size : Int))))))).bind fun o1 => (if o1 = true then (F12).bind fun t7 => some t7 else (F20 x0 x1 x2).bind fun t8 => (F17 t8 x1).bind fun t9 => (((if (nb t9.2) = true then some true else some (decide (¬ (t9.1 = x2))))).bind fun o10 => (if o10 = true then some false else (((if ¬ (x3 = x1) then (F17 x0 x3).bind fun t15 => (F17 t8 x3).bind fun t16 => (((if ¬ (t15.1 = t16.1) then some true else some (((t15.2 == t16.2) != true)))).bind fun o17 => (if o17 = true then (some false).map Sum.inl else some (Sum.inr (())))) else some (Sum.inr (()))) : Option ((Bool) ⊕ (Unit))).bind fun o13 => match o13 with | Sum.inl f => some f | Sum.inr po13 => (F17 x0 x1).bind fun t20 => (((F13 x0).bind fun t22 => (if t22 = true then (F13 ([(⟨x1, x2⟩ : Label)])).bind fun t24 => (if t24 = true then (if t20.2 = true then (F13 t8).bind fun t27 => some (nb t27) else (if (x0.length : Int) < 16 then (F13 t8).bind fun t29 => some (nb t29) else some false)) else some false) else some false)).bind fun o21 => (if o21 = true then some false else (((F20 t8 x1 x2).bind fun t32 => (F19 t32 t8).bind fun t33 => (if t33 = true then (F12).bind fun t35 => some t35 else some false)).bind fun o31 => some o31))))))))
def a9 : AFn := ⟨114, [(.tmp 8)],
 (.seq (.reg [⟨(some 8), none, .mv (kB false), [], (.new [])⟩])
 (.seq (.seq (.sem (.reg [⟨(some 18), none, .mv (.t 0), [], (.new [])⟩,
   ⟨(some 19), none, .call 11 [(.t 18), kN], [], (.new [])⟩,
   ⟨(some 20), none, .not (.t 19), [], (.new [])⟩,
   ⟨(some 21), none, .mv (.t 20), [], (.new [])⟩,
   ⟨(some 22), (some (21, false)), .mv (.t 1), [], (.new [])⟩,
   ⟨(some 23), (some (21, false)), .slen (.t 22), [], (.new [])⟩,
   ⟨(some 24), (some (21, false)), .bin .gtr (.t 23) (kI 200), [], (.new [])⟩,
   ⟨(some 25), none, .pick (.t 21) (kB true) (.t 24), [], (.new [])⟩,
   ⟨(some 26), none, .mv (.t 25), [], (.new [])⟩,
   ⟨(some 27), (some (26, false)), .mv (.t 2), [], (.new [])⟩,
   ⟨(some 28), (some (26, false)), .slen (.t 27), [], (.new [])⟩,
   ⟨(some 29), (some (26, false)), .bin .gtr (.t 28) (kI 200), [], (.new [])⟩,
   ⟨(some 30), none, .pick (.t 26) (kB true) (.t 29), [], (.new [])⟩,
   ⟨(some 31), none, .mv (.t 30), [], (.new [])⟩,
   ⟨(some 32), (some (31, false)), .mv (.t 3), [], (.new [])⟩,
   ⟨(some 33), (some (31, false)), .slen (.t 32), [], (.new [])⟩,
   ⟨(some 34), (some (31, false)), .bin .gtr (.t 33) (kI 200), [], (.new [])⟩,
   ⟨(some 35), none, .pick (.t 31) (kB true) (.t 34), [], (.new [])⟩]))
 (.cond (.t 35)
 (.seq (.reg [⟨(some 36), none, .call 12 [], [], (.new [])⟩,
   ⟨(some 8), none, .mv (.t 36), [], (.new [])⟩])
 .ret)
 .skip))
 (.seq (.reg [⟨(some 37), none, .mv (.t 0), [], (.new [])⟩,
   ⟨(some 38), none, .mv (.t 1), [], (.new [])⟩,
   ⟨(some 39), none, .mv (.t 2), [], (.new [])⟩,
   ⟨(some 40), none, .call 20 [(.t 37), (.t 38), (.t 39)], [], (.new [])⟩,
   ⟨(some 9), none, .mv (.t 40), [], (.new [])⟩])
 (.seq (.reg [⟨(some 42), none, .mv (.t 9), [], (.new [])⟩,
   ⟨(some 43), none, .mv (.t 1), [], (.new [])⟩,
   ⟨(some 44), none, .call 17 [(.t 42), (.t 43)], [], (.new [])⟩,
   ⟨(some 41), none, .mv (.t 44), [], (.new [])⟩,
   ⟨(some 45), none, .ext (.t 41) 0, [], (.new [])⟩,
   ⟨(some 46), none, .ext (.t 41) 1, [], (.new [])⟩,
   ⟨(some 10), none, .mv (.t 45), [], (.new [])⟩,
   ⟨(some 11), none, .mv (.t 46), [], (.new [])⟩])
 (.seq (.seq (.sem (.reg [⟨(some 47), none, .mv (.t 11), [], (.new [])⟩,
   ⟨(some 48), none, .not (.t 47), [], (.new [])⟩,
   ⟨(some 49), none, .mv (.t 48), [], (.new [])⟩,
   ⟨(some 50), (some (49, false)), .mv (.t 10), [], (.new [])⟩,
   ⟨(some 51), (some (49, false)), .mv (.t 2), [], (.new [])⟩,
   ⟨(some 52), (some (49, false)), .bin .neq (.t 50) (.t 51), [], (.new [])⟩,
   ⟨(some 53), none, .pick (.t 49) (kB true) (.t 52), [], (.lone [])⟩]))
 (.cond (.t 53)
 (.seq (.reg [⟨(some 8), none, .mv (kB false), [], (.new [])⟩])
 .ret)
 .skip))
 (.seq (.sem (.seq (.reg [⟨(some 54), none, .mv (.t 3), [], (.new [])⟩,
   ⟨(some 55), none, .mv (.t 1), [], (.new [])⟩,
   ⟨(some 56), none, .bin .neq (.t 54) (.t 55), [], (.new [])⟩])
 (.cond (.t 56)
 (.seq (.reg [⟨(some 58), none, .mv (.t 0), [], (.new [])⟩,
   ⟨(some 59), none, .mv (.t 3), [], (.new [])⟩,
   ⟨(some 60), none, .call 17 [(.t 58), (.t 59)], [], (.new [])⟩,
   ⟨(some 57), none, .mv (.t 60), [], (.new [])⟩,
   ⟨(some 61), none, .ext (.t 57) 0, [], (.new [])⟩,
   ⟨(some 62), none, .ext (.t 57) 1, [], (.new [])⟩,
   ⟨(some 12), none, .mv (.t 61), [], (.new [])⟩,
   ⟨(some 13), none, .mv (.t 62), [], (.new [])⟩])
 (.seq (.reg [⟨(some 64), none, .mv (.t 9), [], (.new [])⟩,
   ⟨(some 65), none, .mv (.t 3), [], (.new [])⟩,
   ⟨(some 66), none, .call 17 [(.t 64), (.t 65)], [], (.new [])⟩,
   ⟨(some 63), none, .mv (.t 66), [], (.new [])⟩,
   ⟨(some 67), none, .ext (.t 63) 0, [], (.new [])⟩,
   ⟨(some 68), none, .ext (.t 63) 1, [], (.new [])⟩,
   ⟨(some 14), none, .mv (.t 67), [], (.new [])⟩,
   ⟨(some 15), none, .mv (.t 68), [], (.new [])⟩])
 (.seq (.sem (.reg [⟨(some 69), none, .mv (.t 12), [], (.new [])⟩,
   ⟨(some 70), none, .mv (.t 14), [], (.new [])⟩,
   ⟨(some 71), none, .bin .neq (.t 69) (.t 70), [], (.new [])⟩,
   ⟨(some 72), none, .mv (.t 71), [], (.new [])⟩,
   ⟨(some 73), (some (72, false)), .mv (.t 13), [], (.new [])⟩,
   ⟨(some 74), (some (72, false)), .mv (.t 15), [], (.new [])⟩,
   ⟨(some 75), (some (72, false)), .beq true (.t 73) (.t 74), [], (.new [])⟩,
   ⟨(some 76), none, .pick (.t 72) (kB true) (.t 75), [], (.lone [])⟩]))
 (.cond (.t 76)
 (.seq (.reg [⟨(some 8), none, .mv (kB false), [], (.new [])⟩])
 .ret)
 .skip))))
 .skip)))
 (.seq (.reg [⟨(some 78), none, .mv (.t 0), [], (.new [])⟩,
   ⟨(some 79), none, .mv (.t 1), [], (.new [])⟩,
   ⟨(some 80), none, .call 17 [(.t 78), (.t 79)], [], (.new [])⟩,
   ⟨(some 77), none, .mv (.t 80), [], (.new [])⟩,
   ⟨(some 81), none, .ext (.t 77) 0, [], (.new [])⟩,
   ⟨(some 82), none, .ext (.t 77) 1, [], (.new [])⟩,
   ⟨(some 16), none, .mv (.t 81), [], (.new [])⟩,
   ⟨(some 17), none, .mv (.t 82), [], (.new [])⟩])
 (.seq (.seq (.sem (.reg [⟨(some 83), none, .mv (.t 0), [], (.new [])⟩,
   ⟨(some 84), none, .call 13 [(.t 83)], [], (.new [])⟩,
   ⟨(some 85), none, .mv (.t 84), [], (.new [])⟩,
   ⟨(some 86), (some (85, true)), .mv (.t 1), [], (.new [])⟩,
   ⟨(some 87), (some (85, true)), .mv (.t 2), [], (.new [])⟩,
   ⟨(some 88), (some (85, true)), .build [.d (.v (.string ⟨#[]⟩)), .d (.v (.string ⟨#[]⟩))] [(0, 1, (.t 86)), (1, 1, (.t 87))], [], (.new [])⟩,
   ⟨(some 89), (some (85, true)), .bslice 2 [(.t 88)], [], (.new [])⟩,
   ⟨(some 90), (some (85, true)), .call 13 [(.t 89)], [], (.new [])⟩,
   ⟨(some 91), none, .pick (.t 85) (.t 90) (kB false), [], (.new [])⟩,
   ⟨(some 92), none, .mv (.t 91), [], (.new [])⟩,
   ⟨(some 93), (some (92, true)), .mv (.t 17), [], (.new [])⟩,
   ⟨(some 94), (some (92, true)), .mv (.t 93), [], (.new [])⟩,
   ⟨(some 95), (some (94, false)), .mv (.t 0), [], (.new [])⟩,
   ⟨(some 96), (some (94, false)), .len (.t 95), [], (.new [])⟩,
   ⟨(some 97), (some (94, false)), .bin .lss (.t 96) (kI 16), [], (.new [])⟩,
   ⟨(some 98), (some (92, true)), .pick (.t 94) (kB true) (.t 97), [], (.new [])⟩,
   ⟨(some 99), none, .pick (.t 92) (.t 98) (kB false), [], (.new [])⟩,
   ⟨(some 100), none, .mv (.t 99), [], (.new [])⟩,
   ⟨(some 101), (some (100, true)), .mv (.t 9), [], (.new [])⟩,
   ⟨(some 102), (some (100, true)), .call 13 [(.t 101)], [], (.new [])⟩,
   ⟨(some 103), (some (100, true)), .not (.t 102), [], (.new [])⟩,
   ⟨(some 104), none, .pick (.t 100) (.t 103) (kB false), [], (.new [])⟩]))
 (.cond (.t 104)
 (.seq (.reg [⟨(some 8), none, .mv (kB false), [], (.new [])⟩])
 .ret)
 .skip))
 (.seq (.sem (.reg [⟨(some 105), none, .mv (.t 9), [], (.new [])⟩,
   ⟨(some 106), none, .mv (.t 1), [], (.new [])⟩,
   ⟨(some 107), none, .mv (.t 2), [], (.new [])⟩,
   ⟨(some 108), none, .call 20 [(.t 105), (.t 106), (.t 107)], [], (.new [])⟩,
   ⟨(some 109), none, .mv (.t 9), [], (.new [])⟩,
   ⟨(some 110), none, .call 19 [(.t 108), (.t 109)], [], (.new [])⟩,
   ⟨(some 111), none, .mv (.t 110), [], (.new [])⟩,
   ⟨(some 112), (some (111, true)), .call 12 [], [], (.new [])⟩,
   ⟨(some 113), none, .pick (.t 111) (.t 112) (kB false), [], (.new [])⟩,
   ⟨(some 8), none, .mv (.t 113), [], (.new [])⟩]))
 .ret)))))))))⟩
theorem a9_ok : afn Try.prog 9 = some a9.er := by kernel_rfl
theorem F9_ok {x0 : (List Label)} {x1 : ByteArray} {x2 : ByteArray} {x3 : ByteArray} {r : Bool} (h : F9 x0 x1 x2 x3 = some r) : CallD Try.prog 9 [.c (.d (.sl (x0.map eLabel))), .c (.d (.v (.string x1))), .c (.d (.v (.string x2))), .c (.d (.v (.string x3)))] [] (tupV [.c (.d (.v (.bool r)))]) [] := by
  refine callS a9_ok (by simp [a9]) ?_
  rw [F9] at h
  simp only [a9, VW.down, Nat.reduceEqDiff, reduceCtorEq, Nat.reduceAdd, Nat.reduceLeDiff, Nat.reduceLT, Nat.reduceBEq, Nat.reduceSub, EE.down]
  obtain ⟨o1, ho, h⟩ := Option.bind_eq_some_iff.1 h
  refine cutS (fun s => s = ⟨[(0, .one (.c (.d (.sl (x0.map eLabel))))), (1, .one (.c (.d (.v (.string x1))))), (2, .one (.c (.d (.v (.string x2))))), (3, .one (.c (.d (.v (.string x3))))), (35, .one (.c (.d (.v (.bool o1)))))], []⟩) ?_ ?_
  · have h := ho
    clear ho
    simp only [VW.down, Nat.reduceEqDiff, reduceCtorEq, Nat.reduceAdd, Nat.reduceLeDiff, Nat.reduceLT, Nat.reduceBEq, Nat.reduceSub, EE.down]
    obtain ⟨t2, ht2, h⟩ := Option.bind_eq_some_iff.1 h
    refine callX_n [] (F11_ok ht2) ?_ ?_ ?_ ?_ ?_ ?_
    · first | rfl | simp [nrmA, nrmC, nrm, A1.ren, C.ren, rn, List.length_set]
    · simp [liveAll, A1.live, C.live]
    · rfl
    · decide
    · exact trivial
    simp only [VW.down, Nat.reduceEqDiff, reduceCtorEq, Nat.reduceAdd, Nat.reduceLeDiff, Nat.reduceLT, Nat.reduceBEq, Nat.reduceSub, EE.down]
    refine guardSB (fun g3 => ?_) (fun g3 => ?_)
    · have h := (if_pos g3).symm.trans h
      simp only [VW.down, Nat.reduceEqDiff, reduceCtorEq, Nat.reduceAdd, Nat.reduceLeDiff, Nat.reduceLT, Nat.reduceBEq, Nat.reduceSub, EE.down]
      obtain rfl := Option.some.inj h
      exact eM [] rfl
    · have h := (if_neg g3).symm.trans h
      simp only [VW.down, Nat.reduceEqDiff, reduceCtorEq, Nat.reduceAdd, Nat.reduceLeDiff, Nat.reduceLT, Nat.reduceBEq, Nat.reduceSub, EE.down]
      refine guardS (fun g4 => ?_) (fun g4 => ?_)
      · have h := (if_pos g4).symm.trans h
        simp only [VW.down, Nat.reduceEqDiff, reduceCtorEq, Nat.reduceAdd, Nat.reduceLeDiff, Nat.reduceLT, Nat.reduceBEq, Nat.reduceSub, EE.down]
        obtain rfl := Option.some.inj h
        exact eM [] rfl
      · have h := (if_neg g4).symm.trans h
        simp only [VW.down, Nat.reduceEqDiff, reduceCtorEq, Nat.reduceAdd, Nat.reduceLeDiff, Nat.reduceLT, Nat.reduceBEq, Nat.reduceSub, EE.down]
        refine guardS (fun g5 => ?_) (fun g5 => ?_)
        · have h := (if_pos g5).symm.trans h
          simp only [VW.down, Nat.reduceEqDiff, reduceCtorEq, Nat.reduceAdd, Nat.reduceLeDiff, Nat.reduceLT, Nat.reduceBEq, Nat.reduceSub, EE.down]
          obtain rfl := Option.some.inj h
          exact eM [] rfl
        · have h := (if_neg g5).symm.trans h
          simp only [VW.down, Nat.reduceEqDiff, reduceCtorEq, Nat.reduceAdd, Nat.reduceLeDiff, Nat.reduceLT, Nat.reduceBEq, Nat.reduceSub, EE.down]
          obtain rfl := Option.some.inj h
          exact eM [] rfl
  · rintro _ rfl
    clear ho
    simp only [VW.down, Nat.reduceEqDiff, reduceCtorEq, Nat.reduceAdd, Nat.reduceLeDiff, Nat.reduceLT, Nat.reduceBEq, Nat.reduceSub, EE.down]
    refine condB (fun c6 => ?_) (fun c6 => ?_)
    · have h := (if_pos c6).symm.trans h
      simp only [VW.down, Nat.reduceEqDiff, reduceCtorEq, Nat.reduceAdd, Nat.reduceLeDiff, Nat.reduceLT, Nat.reduceBEq, Nat.reduceSub, EE.down]
      obtain ⟨t7, ht7, h⟩ := Option.bind_eq_some_iff.1 h
      refine callX_n [] (F12_ok ht7) ?_ ?_ ?_ ?_ ?_ ?_
      · first | rfl | simp [nrmA, nrmC, nrm, A1.ren, C.ren, rn, List.length_set]
      · simp [liveAll, A1.live, C.live]
      · rfl
      · decide
      · exact trivial
      simp only [VW.down, Nat.reduceEqDiff, reduceCtorEq, Nat.reduceAdd, Nat.reduceLeDiff, Nat.reduceLT, Nat.reduceBEq, Nat.reduceSub, EE.down]
      obtain rfl := Option.some.inj h
      exact eF []
    · have h := (if_neg c6).symm.trans h
      simp only [VW.down, Nat.reduceEqDiff, reduceCtorEq, Nat.reduceAdd, Nat.reduceLeDiff, Nat.reduceLT, Nat.reduceBEq, Nat.reduceSub, EE.down]
      obtain ⟨t8, ht8, h⟩ := Option.bind_eq_some_iff.1 h
      refine callX_n [] (F20_ok ht8) ?_ ?_ ?_ ?_ ?_ ?_
      · first | rfl | simp [nrmA, nrmC, nrm, A1.ren, C.ren, rn, List.length_set]
      · simp [liveAll, A1.live, C.live]
      · rfl
      · decide
      · exact trivial
      simp only [VW.down, Nat.reduceEqDiff, reduceCtorEq, Nat.reduceAdd, Nat.reduceLeDiff, Nat.reduceLT, Nat.reduceBEq, Nat.reduceSub, EE.down]
      obtain ⟨t9, ht9, h⟩ := Option.bind_eq_some_iff.1 h
      refine callX_bor (F17_ok ht9) (by simp only [borAs, bors, hp, List.getElem?_cons_zero, List.getElem?_cons_succ, Option.join_some, List.drop_zero, bor_full', true_and, Nat.zero_add, List.length_map, Nat.le_refl, nrm, List.length_cons, List.length_nil, Nat.reduceAdd, Nat.reduceLeDiff, List.take_succ_cons, List.take_zero, List.take_nil, List.map_cons, List.map_nil, List.length_set, EE.down]) rfl ?_
      simp only [VW.down, Nat.reduceEqDiff, reduceCtorEq, Nat.reduceAdd, Nat.reduceLeDiff, Nat.reduceLT, Nat.reduceBEq, Nat.reduceSub, EE.down]
      obtain ⟨o10, ho, h⟩ := Option.bind_eq_some_iff.1 h
      refine cutS (fun s => s = ⟨[(0, .one (.c (.d (.sl (x0.map eLabel))))), (1, .one (.c (.d (.v (.string x1))))), (2, .one (.c (.d (.v (.string x2))))), (3, .one (.c (.d (.v (.string x3))))), (9, .one (.c (.own 0 0 0 (t8.length) none))), (53, .one (.c (.d (.v (.bool o10)))))], [some (.arr 0 2 (t8.map eLabel))]⟩) ?_ ?_
      · have h := ho
        clear ho
        simp only [VW.down, Nat.reduceEqDiff, reduceCtorEq, Nat.reduceAdd, Nat.reduceLeDiff, Nat.reduceLT, Nat.reduceBEq, Nat.reduceSub, EE.down]
        refine guardSB (fun g11 => ?_) (fun g11 => ?_)
        · have h := (if_pos g11).symm.trans h
          simp only [VW.down, Nat.reduceEqDiff, reduceCtorEq, Nat.reduceAdd, Nat.reduceLeDiff, Nat.reduceLT, Nat.reduceBEq, Nat.reduceSub, EE.down]
          obtain rfl := Option.some.inj h
          exact eM [some 0] rfl
        · have h := (if_neg g11).symm.trans h
          simp only [VW.down, Nat.reduceEqDiff, reduceCtorEq, Nat.reduceAdd, Nat.reduceLeDiff, Nat.reduceLT, Nat.reduceBEq, Nat.reduceSub, EE.down]
          obtain rfl := Option.some.inj h
          exact eM [some 0] rfl
      · rintro _ rfl
        clear ho
        simp only [VW.down, Nat.reduceEqDiff, reduceCtorEq, Nat.reduceAdd, Nat.reduceLeDiff, Nat.reduceLT, Nat.reduceBEq, Nat.reduceSub, EE.down]
        refine condB (fun c12 => ?_) (fun c12 => ?_)
        · have h := (if_pos c12).symm.trans h
          simp only [VW.down, Nat.reduceEqDiff, reduceCtorEq, Nat.reduceAdd, Nat.reduceLeDiff, Nat.reduceLT, Nat.reduceBEq, Nat.reduceSub, EE.down]
          obtain rfl := Option.some.inj h
          exact eF []
        · have h := (if_neg c12).symm.trans h
          simp only [VW.down, Nat.reduceEqDiff, reduceCtorEq, Nat.reduceAdd, Nat.reduceLeDiff, Nat.reduceLT, Nat.reduceBEq, Nat.reduceSub, EE.down]
          obtain ⟨o13, ho, h⟩ := Option.bind_eq_some_iff.1 h
          refine cutS (fun s => ∃ po13, o13 = Sum.inr po13 ∧ s = ⟨[(0, .one (.c (.d (.sl (x0.map eLabel))))), (1, .one (.c (.d (.v (.string x1))))), (2, .one (.c (.d (.v (.string x2))))), (9, .one (.c (.own 0 0 0 (t8.length) none)))], [some (.arr 0 2 (t8.map eLabel))]⟩) ?_ ?_
          · have h0o13 := h
            have h := ho
            clear ho
            simp only [VW.down, Nat.reduceEqDiff, reduceCtorEq, Nat.reduceAdd, Nat.reduceLeDiff, Nat.reduceLT, Nat.reduceBEq, Nat.reduceSub, EE.down]
            refine condS (fun c14 => ?_) (fun c14 => ?_)
            · have h := (if_pos c14).symm.trans h
              simp only [VW.down, Nat.reduceEqDiff, reduceCtorEq, Nat.reduceAdd, Nat.reduceLeDiff, Nat.reduceLT, Nat.reduceBEq, Nat.reduceSub, EE.down]
              obtain ⟨t15, ht15, h⟩ := Option.bind_eq_some_iff.1 h
              refine callX_n [] (F17_ok ht15) ?_ ?_ ?_ ?_ ?_ ?_
              · first | rfl | simp [nrmA, nrmC, nrm, A1.ren, C.ren, rn, List.length_set]
              · simp [liveAll, A1.live, C.live]
              · rfl
              · decide
              · exact trivial
              simp only [VW.down, Nat.reduceEqDiff, reduceCtorEq, Nat.reduceAdd, Nat.reduceLeDiff, Nat.reduceLT, Nat.reduceBEq, Nat.reduceSub, EE.down]
              obtain ⟨t16, ht16, h⟩ := Option.bind_eq_some_iff.1 h
              refine callX_bor (F17_ok ht16) (by simp only [borAs, bors, hp, List.getElem?_cons_zero, List.getElem?_cons_succ, Option.join_some, List.drop_zero, bor_full', true_and, Nat.zero_add, List.length_map, Nat.le_refl, nrm, List.length_cons, List.length_nil, Nat.reduceAdd, Nat.reduceLeDiff, List.take_succ_cons, List.take_zero, List.take_nil, List.map_cons, List.map_nil, List.length_set, EE.down]) rfl ?_
              simp only [VW.down, Nat.reduceEqDiff, reduceCtorEq, Nat.reduceAdd, Nat.reduceLeDiff, Nat.reduceLT, Nat.reduceBEq, Nat.reduceSub, EE.down]
              obtain ⟨o17, ho, h⟩ := Option.bind_eq_some_iff.1 h
              refine cutS (fun s => s = ⟨[(0, .one (.c (.d (.sl (x0.map eLabel))))), (1, .one (.c (.d (.v (.string x1))))), (2, .one (.c (.d (.v (.string x2))))), (9, .one (.c (.own 0 0 0 (t8.length) none))), (76, .one (.c (.d (.v (.bool o17)))))], [some (.arr 0 2 (t8.map eLabel))]⟩) ?_ ?_
              · have h := ho
                clear ho
                simp only [VW.down, Nat.reduceEqDiff, reduceCtorEq, Nat.reduceAdd, Nat.reduceLeDiff, Nat.reduceLT, Nat.reduceBEq, Nat.reduceSub, EE.down]
                refine guardS (fun g18 => ?_) (fun g18 => ?_)
                · have h := (if_pos g18).symm.trans h
                  simp only [VW.down, Nat.reduceEqDiff, reduceCtorEq, Nat.reduceAdd, Nat.reduceLeDiff, Nat.reduceLT, Nat.reduceBEq, Nat.reduceSub, EE.down]
                  obtain rfl := Option.some.inj h
                  exact eM [some 0] rfl
                · have h := (if_neg g18).symm.trans h
                  simp only [VW.down, Nat.reduceEqDiff, reduceCtorEq, Nat.reduceAdd, Nat.reduceLeDiff, Nat.reduceLT, Nat.reduceBEq, Nat.reduceSub, EE.down]
                  obtain rfl := Option.some.inj h
                  exact eM [some 0] rfl
              · rintro _ rfl
                clear ho
                simp only [VW.down, Nat.reduceEqDiff, reduceCtorEq, Nat.reduceAdd, Nat.reduceLeDiff, Nat.reduceLT, Nat.reduceBEq, Nat.reduceSub, EE.down]
                refine condB (fun c19 => ?_) (fun c19 => ?_)
                · have h := (if_pos c19).symm.trans h
                  simp only [VW.down, Nat.reduceEqDiff, reduceCtorEq, Nat.reduceAdd, Nat.reduceLeDiff, Nat.reduceLT, Nat.reduceBEq, Nat.reduceSub, EE.down]
                  obtain ⟨fh0o13, hfh0o13, rfl⟩ := Option.map_eq_some_iff.1 h
                  have h := hfh0o13.trans h0o13
                  obtain rfl := Option.some.inj h
                  exact eF []
                · have h := (if_neg c19).symm.trans h
                  simp only [VW.down, Nat.reduceEqDiff, reduceCtorEq, Nat.reduceAdd, Nat.reduceLeDiff, Nat.reduceLT, Nat.reduceBEq, Nat.reduceSub, EE.down]
                  obtain rfl := Option.some.inj h
                  exact eM [some 0] ⟨_, rfl, rfl⟩
            · have h := (if_neg c14).symm.trans h
              simp only [VW.down, Nat.reduceEqDiff, reduceCtorEq, Nat.reduceAdd, Nat.reduceLeDiff, Nat.reduceLT, Nat.reduceBEq, Nat.reduceSub, EE.down]
              obtain rfl := Option.some.inj h
              exact eM [some 0] ⟨_, rfl, rfl⟩
          · rintro _ ⟨po13, rfl, rfl⟩
            clear ho
            dsimp only at h
            simp only [VW.down, Nat.reduceEqDiff, reduceCtorEq, Nat.reduceAdd, Nat.reduceLeDiff, Nat.reduceLT, Nat.reduceBEq, Nat.reduceSub, EE.down]
            obtain ⟨t20, ht20, h⟩ := Option.bind_eq_some_iff.1 h
            refine callX_n [] (F17_ok ht20) ?_ ?_ ?_ ?_ ?_ ?_
            · first | rfl | simp [nrmA, nrmC, nrm, A1.ren, C.ren, rn, List.length_set]
            · simp [liveAll, A1.live, C.live]
            · rfl
            · decide
            · exact trivial
            simp only [VW.down, Nat.reduceEqDiff, reduceCtorEq, Nat.reduceAdd, Nat.reduceLeDiff, Nat.reduceLT, Nat.reduceBEq, Nat.reduceSub, EE.down]
            obtain ⟨o21, ho, h⟩ := Option.bind_eq_some_iff.1 h
            refine cutS (fun s => s = ⟨[(1, .one (.c (.d (.v (.string x1))))), (2, .one (.c (.d (.v (.string x2))))), (9, .one (.c (.own 0 0 0 (t8.length) none))), (104, .one (.c (.d (.v (.bool o21)))))], [some (.arr 0 2 (t8.map eLabel))]⟩) ?_ ?_
            · have h := ho
              clear ho
              simp only [VW.down, Nat.reduceEqDiff, reduceCtorEq, Nat.reduceAdd, Nat.reduceLeDiff, Nat.reduceLT, Nat.reduceBEq, Nat.reduceSub, EE.down]
              obtain ⟨t22, ht22, h⟩ := Option.bind_eq_some_iff.1 h
              refine callX_n [] (F13_ok ht22) ?_ ?_ ?_ ?_ ?_ ?_
              · first | rfl | simp [nrmA, nrmC, nrm, A1.ren, C.ren, rn, List.length_set]
              · simp [liveAll, A1.live, C.live]
              · rfl
              · decide
              · exact trivial
              simp only [VW.down, Nat.reduceEqDiff, reduceCtorEq, Nat.reduceAdd, Nat.reduceLeDiff, Nat.reduceLT, Nat.reduceBEq, Nat.reduceSub, EE.down]
              refine guardSB (fun g23 => ?_) (fun g23 => ?_)
              · have h := (if_pos g23).symm.trans h
                simp only [VW.down, Nat.reduceEqDiff, reduceCtorEq, Nat.reduceAdd, Nat.reduceLeDiff, Nat.reduceLT, Nat.reduceBEq, Nat.reduceSub, EE.down]
                refine t_bslice (enc := eLabel) (ys := [(⟨x1, x2⟩ : Label)]) rfl rfl (by simp [A1.cells]) (by first | rfl | (simp only [List.drop_zero, take_mapL]; rfl)) ?_
                simp only [VW.down, Nat.reduceEqDiff, reduceCtorEq, Nat.reduceAdd, Nat.reduceLeDiff, Nat.reduceLT, Nat.reduceBEq, Nat.reduceSub, EE.down]
                obtain ⟨t24, ht24, h⟩ := Option.bind_eq_some_iff.1 h
                refine callX_bor (F13_ok ht24) (by simp only [borAs, bors, hp, List.getElem?_cons_zero, List.getElem?_cons_succ, Option.join_some, List.drop_zero, bor_full', true_and, Nat.zero_add, List.length_map, Nat.le_refl, nrm, List.length_cons, List.length_nil, Nat.reduceAdd, Nat.reduceLeDiff, List.take_succ_cons, List.take_zero, List.take_nil, List.map_cons, List.map_nil, List.length_set, EE.down]) rfl ?_
                simp only [VW.down, Nat.reduceEqDiff, reduceCtorEq, Nat.reduceAdd, Nat.reduceLeDiff, Nat.reduceLT, Nat.reduceBEq, Nat.reduceSub, EE.down]
                refine guardSB (fun g25 => ?_) (fun g25 => ?_)
                · have h := (if_pos g25).symm.trans h
                  simp only [VW.down, Nat.reduceEqDiff, reduceCtorEq, Nat.reduceAdd, Nat.reduceLeDiff, Nat.reduceLT, Nat.reduceBEq, Nat.reduceSub, EE.down]
                  refine guardSB (fun g26 => ?_) (fun g26 => ?_)
                  · have h := (if_pos g26).symm.trans h
                    simp only [VW.down, Nat.reduceEqDiff, reduceCtorEq, Nat.reduceAdd, Nat.reduceLeDiff, Nat.reduceLT, Nat.reduceBEq, Nat.reduceSub, EE.down]
                    obtain ⟨t27, ht27, h⟩ := Option.bind_eq_some_iff.1 h
                    refine callX_bor (F13_ok ht27) (by simp only [borAs, bors, hp, List.getElem?_cons_zero, List.getElem?_cons_succ, Option.join_some, List.drop_zero, bor_full', true_and, Nat.zero_add, List.length_map, Nat.le_refl, nrm, List.length_cons, List.length_nil, Nat.reduceAdd, Nat.reduceLeDiff, List.take_succ_cons, List.take_zero, List.take_nil, List.map_cons, List.map_nil, List.length_set, EE.down]) rfl ?_
                    simp only [VW.down, Nat.reduceEqDiff, reduceCtorEq, Nat.reduceAdd, Nat.reduceLeDiff, Nat.reduceLT, Nat.reduceBEq, Nat.reduceSub, EE.down]
                    obtain rfl := Option.some.inj h
                    exact eM [some 0] rfl
                  · have h := (if_neg g26).symm.trans h
                    simp only [VW.down, Nat.reduceEqDiff, reduceCtorEq, Nat.reduceAdd, Nat.reduceLeDiff, Nat.reduceLT, Nat.reduceBEq, Nat.reduceSub, EE.down]
                    refine guardS (fun g28 => ?_) (fun g28 => ?_)
                    · have h := (if_pos g28).symm.trans h
                      simp only [VW.down, Nat.reduceEqDiff, reduceCtorEq, Nat.reduceAdd, Nat.reduceLeDiff, Nat.reduceLT, Nat.reduceBEq, Nat.reduceSub, EE.down]
                      obtain ⟨t29, ht29, h⟩ := Option.bind_eq_some_iff.1 h
                      refine callX_bor (F13_ok ht29) (by simp only [borAs, bors, hp, List.getElem?_cons_zero, List.getElem?_cons_succ, Option.join_some, List.drop_zero, bor_full', true_and, Nat.zero_add, List.length_map, Nat.le_refl, nrm, List.length_cons, List.length_nil, Nat.reduceAdd, Nat.reduceLeDiff, List.take_succ_cons, List.take_zero, List.take_nil, List.map_cons, List.map_nil, List.length_set, EE.down]) rfl ?_
                      simp only [VW.down, Nat.reduceEqDiff, reduceCtorEq, Nat.reduceAdd, Nat.reduceLeDiff, Nat.reduceLT, Nat.reduceBEq, Nat.reduceSub, EE.down]
                      obtain rfl := Option.some.inj h
                      exact eM [some 0] rfl
                    · have h := (if_neg g28).symm.trans h
                      simp only [VW.down, Nat.reduceEqDiff, reduceCtorEq, Nat.reduceAdd, Nat.reduceLeDiff, Nat.reduceLT, Nat.reduceBEq, Nat.reduceSub, EE.down]
                      obtain rfl := Option.some.inj h
                      exact eM [some 0] rfl
                · have h := (if_neg g25).symm.trans h
                  simp only [VW.down, Nat.reduceEqDiff, reduceCtorEq, Nat.reduceAdd, Nat.reduceLeDiff, Nat.reduceLT, Nat.reduceBEq, Nat.reduceSub, EE.down]
                  obtain rfl := Option.some.inj h
                  exact eM [some 0] rfl
              · have h := (if_neg g23).symm.trans h
                simp only [VW.down, Nat.reduceEqDiff, reduceCtorEq, Nat.reduceAdd, Nat.reduceLeDiff, Nat.reduceLT, Nat.reduceBEq, Nat.reduceSub, EE.down]
                obtain rfl := Option.some.inj h
                exact eM [some 0] rfl
            · rintro _ rfl
              clear ho
              simp only [VW.down, Nat.reduceEqDiff, reduceCtorEq, Nat.reduceAdd, Nat.reduceLeDiff, Nat.reduceLT, Nat.reduceBEq, Nat.reduceSub, EE.down]
              refine condB (fun c30 => ?_) (fun c30 => ?_)
              · have h := (if_pos c30).symm.trans h
                simp only [VW.down, Nat.reduceEqDiff, reduceCtorEq, Nat.reduceAdd, Nat.reduceLeDiff, Nat.reduceLT, Nat.reduceBEq, Nat.reduceSub, EE.down]
                obtain rfl := Option.some.inj h
                exact eF []
              · have h := (if_neg c30).symm.trans h
                simp only [VW.down, Nat.reduceEqDiff, reduceCtorEq, Nat.reduceAdd, Nat.reduceLeDiff, Nat.reduceLT, Nat.reduceBEq, Nat.reduceSub, EE.down]
                obtain ⟨o31, ho, h⟩ := Option.bind_eq_some_iff.1 h
                refine cutS (fun s => s = ⟨[(8, .one (.c (.d (.v (.bool o31)))))], []⟩) ?_ ?_
                · have h := ho
                  clear ho
                  simp only [VW.down, Nat.reduceEqDiff, reduceCtorEq, Nat.reduceAdd, Nat.reduceLeDiff, Nat.reduceLT, Nat.reduceBEq, Nat.reduceSub, EE.down]
                  obtain ⟨t32, ht32, h⟩ := Option.bind_eq_some_iff.1 h
                  refine callX_borF (F20_ok ht32) (by simp only [borAs, bors, hp, List.getElem?_cons_zero, List.getElem?_cons_succ, Option.join_some, List.drop_zero, bor_full', true_and, Nat.zero_add, List.length_map, Nat.le_refl, nrm, List.length_cons, List.length_nil, Nat.reduceAdd, Nat.reduceLeDiff, List.take_succ_cons, List.take_zero, List.take_nil, List.map_cons, List.map_nil, List.length_set, EE.down]) rfl ⟨flat_rows (enc := eLabel) (fun _ => rfl) _, trivial⟩ ?_
                  simp only [VW.down, Nat.reduceEqDiff, reduceCtorEq, Nat.reduceAdd, Nat.reduceLeDiff, Nat.reduceLT, Nat.reduceBEq, Nat.reduceSub, EE.down]
                  obtain ⟨t33, ht33, h⟩ := Option.bind_eq_some_iff.1 h
                  refine callX_bor (F19_ok ht33) (by simp only [borAs, bors, hp, List.getElem?_cons_zero, List.getElem?_cons_succ, Option.join_some, List.drop_zero, bor_full', true_and, Nat.zero_add, List.length_map, Nat.le_refl, nrm, List.length_cons, List.length_nil, Nat.reduceAdd, Nat.reduceLeDiff, List.take_succ_cons, List.take_zero, List.take_nil, List.map_cons, List.map_nil, List.length_set, EE.down]) rfl ?_
                  simp only [VW.down, Nat.reduceEqDiff, reduceCtorEq, Nat.reduceAdd, Nat.reduceLeDiff, Nat.reduceLT, Nat.reduceBEq, Nat.reduceSub, EE.down]
                  refine guardSB (fun g34 => ?_) (fun g34 => ?_)
                  · have h := (if_pos g34).symm.trans h
                    simp only [VW.down, Nat.reduceEqDiff, reduceCtorEq, Nat.reduceAdd, Nat.reduceLeDiff, Nat.reduceLT, Nat.reduceBEq, Nat.reduceSub, EE.down]
                    obtain ⟨t35, ht35, h⟩ := Option.bind_eq_some_iff.1 h
                    refine callX_n [] (F12_ok ht35) ?_ ?_ ?_ ?_ ?_ ?_
                    · first | rfl | simp [nrmA, nrmC, nrm, A1.ren, C.ren, rn, List.length_set]
                    · simp [liveAll, A1.live, C.live]
                    · rfl
                    · decide
                    · exact trivial
                    simp only [VW.down, Nat.reduceEqDiff, reduceCtorEq, Nat.reduceAdd, Nat.reduceLeDiff, Nat.reduceLT, Nat.reduceBEq, Nat.reduceSub, EE.down]
                    obtain rfl := Option.some.inj h
                    exact eM [] rfl
                  · have h := (if_neg g34).symm.trans h
                    simp only [VW.down, Nat.reduceEqDiff, reduceCtorEq, Nat.reduceAdd, Nat.reduceLeDiff, Nat.reduceLT, Nat.reduceBEq, Nat.reduceSub, EE.down]
                    obtain rfl := Option.some.inj h
                    exact eM [] rfl
                · rintro _ rfl
                  clear ho
                  simp only [VW.down, Nat.reduceEqDiff, reduceCtorEq, Nat.reduceAdd, Nat.reduceLeDiff, Nat.reduceLT, Nat.reduceBEq, Nat.reduceSub, EE.down]
                  obtain rfl := Option.some.inj h
                  exact eF []

end Go.Proofs.Ytadhmlfnfgpjjaa
