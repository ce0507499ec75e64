/- Each Go function as a function over typed data, and its walk. -/
import Derived.Test.YtbopaemngpbdgaaDX4
namespace Go.Proofs.Ytbopaemngpbdgaa
open Go Go.Fw Go.Shelf
set_option maxRecDepth 100000
set_option maxHeartbeats 4000000
set_option linter.unusedSimpArgs false
set_option linter.unusedVariables false
/- orchestrator/orchestratorlaw14.StoreLists -/
def F6_l8 (t6 : TStore) (t7 : (List Object)) (x1 : Filter) : List Object → Nat → Int → Option ((Bool) ⊕ (Int))
  | [], o8_1, o8_0 => some (Sum.inr o8_0)
  | xo8 :: xs, o8_1, o8_0 => (((rdI ((t6).Objects) ((o8_1 : Int))).bind fun y11 => (F22 y11).bind fun t12 => (F21 ((⟨(t6).Rev, (t6).Floor, (t6).NextUid, (t6).Base, (t6).Objects, (t6).History⟩ : TStore)) t12).bind fun t13 => (((if (nb t13.2.2.2.2.2.2.2.2.2.2.2.2.2.2.2.2.2.2.2.2.2.2.2) = true then some true else (F13 ((⟨(⟨t13.1, t13.2.1, t13.2.2.1, t13.2.2.2.1, t13.2.2.2.2.1, t13.2.2.2.2.2.1, t13.2.2.2.2.2.2.1, t13.2.2.2.2.2.2.2.1, t13.2.2.2.2.2.2.2.2.1, t13.2.2.2.2.2.2.2.2.2.1, t13.2.2.2.2.2.2.2.2.2.2.1, t13.2.2.2.2.2.2.2.2.2.2.2.1, t13.2.2.2.2.2.2.2.2.2.2.2.2.1⟩ : Meta), (⟨t13.2.2.2.2.2.2.2.2.2.2.2.2.2.1, t13.2.2.2.2.2.2.2.2.2.2.2.2.2.2.1, t13.2.2.2.2.2.2.2.2.2.2.2.2.2.2.2.1, t13.2.2.2.2.2.2.2.2.2.2.2.2.2.2.2.2.1, t13.2.2.2.2.2.2.2.2.2.2.2.2.2.2.2.2.2.1⟩ : TValue), (⟨t13.2.2.2.2.2.2.2.2.2.2.2.2.2.2.2.2.2.2.1, t13.2.2.2.2.2.2.2.2.2.2.2.2.2.2.2.2.2.2.2.1, t13.2.2.2.2.2.2.2.2.2.2.2.2.2.2.2.2.2.2.2.2.1, t13.2.2.2.2.2.2.2.2.2.2.2.2.2.2.2.2.2.2.2.2.2.1, t13.2.2.2.2.2.2.2.2.2.2.2.2.2.2.2.2.2.2.2.2.2.2.1⟩ : TValue)⟩ : Object)) y11).bind fun t16 => (if (nb t16) = true then some true else (if 0 < (o8_1 : Int) then (rdI ((t6).Objects) ((IntKind.i64.wrap (((o8_1 : Int)) - 1)))).bind fun y19 => (F22 y19).bind fun t20 => (F22 y11).bind fun t21 => some (nb (Op.bytesLess t20.toList t21.toList)) else some false)))).bind fun o14 => (if o14 = true then ((some false).map Sum.inl).map Sum.inl else (((if x1.Kind = (⟨#[]⟩ : ByteArray) then (if x1.Namespace = (⟨#[]⟩ : ByteArray) then (F23 x1.Selector y11.Meta.Labels).bind fun t26 => some t26 else (if x1.Namespace = y11.Meta.Namespace then (F23 x1.Selector y11.Meta.Labels).bind fun t28 => some t28 else some false)) else (if x1.Kind = y11.Meta.Kind then (if x1.Namespace = (⟨#[]⟩ : ByteArray) then (F23 x1.Selector y11.Meta.Labels).bind fun t31 => some t31 else (if x1.Namespace = y11.Meta.Namespace then (F23 x1.Selector y11.Meta.Labels).bind fun t33 => some t33 else some false)) else some false))).bind fun o23 => (if o23 = true then (((if (t7.length : Int) ≤ o8_0 then some true else (rdI t7 o8_0).bind fun y37 => (F13 y37 y11).bind fun t38 => some (nb t38))).bind fun o35 => (if o35 = true then ((some false).map Sum.inl).map Sum.inl else some (Sum.inr ((IntKind.i64.wrap (o8_0 + 1)))))) else some (Sum.inr o8_0))))) : Option (((Bool) ⊕ (Int)) ⊕ (Int))).bind fun o10 => match o10 with | Sum.inl f => some f | Sum.inr po10 => F6_l8 t6 t7 x1 xs (o8_1 + 1) po10)
def F6 (x0 : (List TOp)) (x1 : Filter) : Option (Bool) := (((F7 x0).bind fun t2 => (if (nb t2) = true then some true else some (decide (40 < (x1.Selector.length : Int))))).bind fun o1 => (if o1 = true then (F8).bind fun t5 => some t5 else (F14 x0).bind fun t6 => (F20 ((⟨(t6).Rev, (t6).Floor, (t6).NextUid, (t6).Base, (t6).Objects, (t6).History⟩ : TStore)) x1).bind fun t7 => (((ck (0 ≤ (((t6).Objects)).length ∧ (((t6).Objects)).length ≤ 4294967290)).bind fun u40 => F6_l8 t6 t7 x1 (((t6).Objects)) 0 0 : Option ((Bool) ⊕ (Int))).bind fun o8 => match o8 with | Sum.inl f => some f | Sum.inr po8 => (((F8).bind fun t42 => (if t42 = true then some (decide (po8 = (t7.length : Int))) else some false)).bind fun o41 => some o41))))
def a6 : AFn := ⟨124, [(.tmp 4)],
 (.seq (.reg [sq 3 (.box (.t 1)),
sq 4 (.mv (kB false))])
 (.seq (.seq (.sem (.reg [sq 12 (.mv (.t 0)),
sq 13 (.call 7 [(.t 12)]),
sq 14 (.not (.t 13)),
sq 15 (.mv (.t 14)),
⟨(some 16), (some (15, false)), .fieldA 2 (.t 3), [], (.new [])⟩,
⟨(some 17), (some (15, false)), .load none (.t 16), [], (.new [])⟩,
⟨(some 18), (some (15, false)), .len (.t 17), [], (.new [])⟩,
⟨(some 19), (some (15, false)), .bin .gtr (.t 18) (kI 40), [], (.new [])⟩,
sq 20 (.pick (.t 15) (kB true) (.t 19))]))
 (.cond (.t 20)
 (.seq (.reg [sq 21 (.call 8 []),
sq 4 (.mv (.t 21))])
 .ret)
 .skip))
 (.seq (.reg [sq 22 (.mv (.t 0)),
sq 23 (.call 14 [(.t 22)]),
sq 5 (.zbox [.d (.v (.int .i64 0)), .d (.v (.int .i64 0)), .d (.v (.int .i64 0)), .d (.v (.slice none 0 0)), .d (.v (.slice none 0 0)), .d (.v (.slice none 0 0))]),
su (.store 6 (.t 5) (.t 23))])
 (.seq (.reg [sq 24 (.load (some 6) (.t 5)),
sq 25 (.load (some 3) (.t 3)),
sq 26 (.call 20 [(.t 24), (.t 25)]),
sq 6 (.mv (.t 26))])
 (.seq (.reg [sq 7 (.mv (kI 0))])
 (.seq (.seq (.reg [sq 8 (.mv (kI 0))])
 (.sem (.block 0 (.loop (.seq (.seq (.reg [sq 27 (.mv (.t 8)),
sq 28 (.fieldA 4 (.t 5)),
sq 29 (.load none (.t 28)),
sq 30 (.len (.t 29)),
sq 31 (.bin .lss (.t 27) (.t 30))])
 (.cond (.t 31)
 .skip
 (.exit 0)))
 (.seq (.sem (.block 1 (.seq (.reg [sq 34 (.fieldA 4 (.t 5)),
sq 35 (.load none (.t 34)),
sq 36 (.mv (.t 8)),
sq 37 (.indexA 23 (.t 35) (.t 36)),
sq 38 (.load (some 23) (.t 37)),
sq 9 (.zbox [.d (.v (.string ⟨#[]⟩)), .d (.v (.string ⟨#[]⟩)), .d (.v (.string ⟨#[]⟩)), .d (.v (.int .i64 0)), .d (.v (.int .i64 0)), .d (.v (.int .i64 0)), .d (.v (.int .i64 0)), .d (.v (.bool false)), .d (.v (.int .i64 0)), .d (.v (.slice none 0 0)), .d (.v (.slice none 0 0)), .d (.v (.slice none 0 0)), .d (.v (.slice none 0 0)), .d (.v (.int .i64 0)), .d (.v (.int .i64 0)), .d (.v (.string ⟨#[]⟩)), .d (.v (.slice none 0 0)), .d (.v (.slice none 0 0)), .d (.v (.int .i64 0)), .d (.v (.int .i64 0)), .d (.v (.string ⟨#[]⟩)), .d (.v (.slice none 0 0)), .d (.v (.slice none 0 0))]),
su (.store 23 (.t 9) (.t 38))])
 (.seq (.regd [sq 40 (.load (some 6) (.t 5)),
sq 41 (.load (some 23) (.t 9)),
⟨(some 42), none, .call 22 [(.t 41)], [1], (.new [1])⟩,
⟨(some 43), none, .call 21 [(.t 40), (.t 42)], [0, 1, 2], (.new [0, 1, 2])⟩,
sd 39 (.mv (.t 43)) [0, 1, 2, 3],
sd 44 (.ext (.t 39) 0) [0, 1, 2, 3, 4],
sd 45 (.ext (.t 39) 1) [0, 1, 2, 3, 4],
sq 10 (.zbox [.d (.v (.string ⟨#[]⟩)), .d (.v (.string ⟨#[]⟩)), .d (.v (.string ⟨#[]⟩)), .d (.v (.int .i64 0)), .d (.v (.int .i64 0)), .d (.v (.int .i64 0)), .d (.v (.int .i64 0)), .d (.v (.bool false)), .d (.v (.int .i64 0)), .d (.v (.slice none 0 0)), .d (.v (.slice none 0 0)), .d (.v (.slice none 0 0)), .d (.v (.slice none 0 0)), .d (.v (.int .i64 0)), .d (.v (.int .i64 0)), .d (.v (.string ⟨#[]⟩)), .d (.v (.slice none 0 0)), .d (.v (.slice none 0 0)), .d (.v (.int .i64 0)), .d (.v (.int .i64 0)), .d (.v (.string ⟨#[]⟩)), .d (.v (.slice none 0 0)), .d (.v (.slice none 0 0))]),
⟨none, none, .store 23 (.t 10) (.t 44), [0, 1, 2, 3, 4, 5, 7], (.lone [])⟩,
sd 11 (.mv (.t 45)) [0, 1, 2, 3, 4, 5, 6, 7, 8]])
 (.seq (.seq (.sem (.regd [sq 46 (.mv (.t 11)),
sd 47 (.not (.t 46)) [0],
sd 48 (.mv (.t 47)) [0, 1],
⟨(some 49), (some (48, false)), .load (some 23) (.t 10), [0, 1, 2], (.new [])⟩,
⟨(some 50), (some (48, false)), .load (some 23) (.t 9), [0, 1, 2], (.new [])⟩,
⟨(some 51), (some (48, false)), .call 13 [(.t 49), (.t 50)], [0, 1, 2, 3, 4], (.lone [])⟩,
⟨(some 52), (some (48, false)), .not (.t 51), [0, 1, 2, 3, 4, 5], (.new [])⟩,
⟨(some 53), none, .pick (.t 48) (kB true) (.t 52), [0, 1, 2, 3, 4, 5, 6], (.lone [])⟩,
sd 54 (.mv (.t 53)) [0, 1, 2, 3, 4, 5, 6, 7],
⟨(some 55), (some (54, false)), .mv (.t 8), [0, 1, 2, 3, 4, 5, 6, 7, 8], (.new [])⟩,
⟨(some 56), (some (54, false)), .bin .gtr (.t 55) (kI 0), [0, 1, 2, 3, 4, 5, 6, 7, 8, 9], (.new [])⟩,
⟨(some 57), (some (54, false)), .mv (.t 56), [0, 1, 2, 3, 4, 5, 6, 7, 8, 9, 10], (.new [])⟩,
⟨(some 58), (some (57, true)), .fieldA 4 (.t 5), [0, 1, 2, 3, 4, 5, 6, 7, 8, 9, 10, 11], (.new [])⟩,
⟨(some 59), (some (57, true)), .load none (.t 58), [0, 1, 2, 3, 4, 5, 6, 7, 8, 9, 10, 11, 12], (.new [])⟩,
⟨(some 60), (some (57, true)), .mv (.t 8), [0, 1, 2, 3, 4, 5, 6, 7, 8, 9, 10, 11], (.new [])⟩,
⟨(some 61), (some (57, true)), .bin .sub (.t 60) (kI 1), [0, 1, 2, 3, 4, 5, 6, 7, 8, 9, 10, 11, 14], (.new [])⟩,
⟨(some 62), (some (57, true)), .indexA 23 (.t 59) (.t 61), [0, 1, 2, 3, 4, 5, 6, 7, 8, 9, 10, 11, 12, 13, 14, 15], (.new [])⟩,
⟨(some 63), (some (57, true)), .load (some 23) (.t 62), [0, 1, 2, 3, 4, 5, 6, 7, 8, 9, 10, 11, 12, 13, 14, 15, 16], (.new [])⟩,
⟨(some 64), (some (57, true)), .call 22 [(.t 63)], [0, 1, 2, 3, 4, 5, 6, 7, 8, 9, 10, 11, 12, 13, 14, 15, 16, 17], (.new [12, 13, 14, 15, 16, 17])⟩,
⟨(some 65), (some (57, true)), .load (some 23) (.t 9), [0, 1, 2, 3, 4, 5, 6, 7, 8, 9, 10, 11], (.new [])⟩,
⟨(some 66), (some (57, true)), .call 22 [(.t 65)], [0, 1, 2, 3, 4, 5, 6, 7, 8, 9, 10, 11, 12, 13, 14, 15, 16, 17, 18, 19], (.lone [])⟩,
⟨(some 67), (some (57, true)), .bin .geq (.t 64) (.t 66), [0, 1, 2, 3, 4, 5, 6, 7, 8, 9, 10, 11, 12, 13, 14, 15, 16, 17, 18, 19, 20], (.new [])⟩,
⟨(some 68), (some (54, false)), .pick (.t 57) (.t 67) (kB false), [0, 1, 2, 3, 4, 5, 6, 7, 8, 9, 10, 11, 12, 13, 14, 15, 16, 17, 18, 19, 20, 21], (.lone [])⟩,
⟨(some 69), none, .pick (.t 54) (kB true) (.t 68), [0, 1, 2, 3, 4, 5, 6, 7, 8, 9, 10, 11, 12, 13, 14, 15, 16, 17, 18, 19, 20, 21, 22], (.lone [])⟩]))
 (.cond (.t 69)
 (.seq (.reg [sq 4 (.mv (kB false))])
 .ret)
 .skip))
 (.seq (.sem (.reg [sq 70 (.fieldA 0 (.t 3)),
sq 71 (.load none (.t 70)),
sq 72 (.bin .eql (.t 71) (kS ⟨#[]⟩)),
sq 73 (.mv (.t 72)),
⟨(some 74), (some (73, false)), .fieldA 0 (.t 3), [], (.new [])⟩,
⟨(some 75), (some (73, false)), .load none (.t 74), [], (.new [])⟩,
⟨(some 76), (some (73, false)), .fieldA 0 (.t 9), [], (.new [])⟩,
⟨(some 77), (some (73, false)), .fieldA 0 (.t 76), [], (.new [])⟩,
⟨(some 78), (some (73, false)), .load none (.t 77), [], (.new [])⟩,
⟨(some 79), (some (73, false)), .bin .eql (.t 75) (.t 78), [], (.new [])⟩,
sq 80 (.pick (.t 73) (kB true) (.t 79)),
sq 81 (.mv (.t 80)),
⟨(some 82), (some (81, true)), .fieldA 1 (.t 3), [], (.new [])⟩,
⟨(some 83), (some (81, true)), .load none (.t 82), [], (.new [])⟩,
⟨(some 84), (some (81, true)), .bin .eql (.t 83) (kS ⟨#[]⟩), [], (.new [])⟩,
⟨(some 85), (some (81, true)), .mv (.t 84), [], (.new [])⟩,
⟨(some 86), (some (85, false)), .fieldA 1 (.t 3), [], (.new [])⟩,
⟨(some 87), (some (85, false)), .load none (.t 86), [], (.new [])⟩,
⟨(some 88), (some (85, false)), .fieldA 0 (.t 9), [], (.new [])⟩,
⟨(some 89), (some (85, false)), .fieldA 1 (.t 88), [], (.new [])⟩,
⟨(some 90), (some (85, false)), .load none (.t 89), [], (.new [])⟩,
⟨(some 91), (some (85, false)), .bin .eql (.t 87) (.t 90), [], (.new [])⟩,
⟨(some 92), (some (81, true)), .pick (.t 85) (kB true) (.t 91), [], (.new [])⟩,
sq 93 (.pick (.t 81) (.t 92) (kB false)),
sq 94 (.mv (.t 93)),
⟨(some 95), (some (94, true)), .fieldA 2 (.t 3), [], (.new [])⟩,
⟨(some 96), (some (94, true)), .load none (.t 95), [], (.new [])⟩,
⟨(some 97), (some (94, true)), .fieldA 0 (.t 9), [], (.new [])⟩,
⟨(some 98), (some (94, true)), .fieldA 9 (.t 97), [], (.new [])⟩,
⟨(some 99), (some (94, true)), .load none (.t 98), [], (.new [])⟩,
⟨(some 100), (some (94, true)), .call 23 [(.t 96), (.t 99)], [], (.new [])⟩,
sq 101 (.pick (.t 94) (.t 100) (kB false))]))
 (.cond (.t 101)
 (.seq (.seq (.sem (.regd [sq 102 (.mv (.t 7)),
sq 103 (.mv (.t 6)),
sd 104 (.len (.t 103)) [1],
sd 105 (.bin .geq (.t 102) (.t 104)) [0, 1, 2],
sd 106 (.mv (.t 105)) [0, 1, 2, 3],
⟨(some 107), (some (106, false)), .mv (.t 6), [0, 1, 2, 3, 4], (.new [])⟩,
⟨(some 108), (some (106, false)), .mv (.t 7), [0, 1, 2, 3, 4], (.new [])⟩,
⟨(some 109), (some (106, false)), .indexA 23 (.t 107) (.t 108), [0, 1, 2, 3, 4, 5, 6], (.new [])⟩,
⟨(some 110), (some (106, false)), .load (some 23) (.t 109), [0, 1, 2, 3, 4, 5, 6, 7], (.new [])⟩,
⟨(some 111), (some (106, false)), .load (some 23) (.t 9), [0, 1, 2, 3, 4], (.new [])⟩,
⟨(some 112), (some (106, false)), .call 13 [(.t 110), (.t 111)], [0, 1, 2, 3, 4, 5, 6, 7, 8, 9], (.lone [])⟩,
⟨(some 113), (some (106, false)), .not (.t 112), [0, 1, 2, 3, 4, 5, 6, 7, 8, 9, 10], (.new [])⟩,
⟨(some 114), none, .pick (.t 106) (kB true) (.t 113), [0, 1, 2, 3, 4, 5, 6, 7, 8, 9, 10, 11], (.lone [])⟩]))
 (.cond (.t 114)
 (.seq (.reg [sq 4 (.mv (kB false))])
 .ret)
 .skip))
 (.reg [sq 115 (.mv (.t 7)),
sq 116 (.bin .add (.t 115) (kI 1)),
sq 7 (.mv (.t 116))]))
 .skip)))))))
 (.reg [sq 32 (.mv (.t 8)),
sq 33 (.bin .add (.t 32) (kI 1)),
sq 8 (.mv (.t 33))])))))))
 (.seq (.sem (.reg [sq 117 (.call 8 []),
sq 118 (.mv (.t 117)),
⟨(some 119), (some (118, true)), .mv (.t 7), [], (.new [])⟩,
⟨(some 120), (some (118, true)), .mv (.t 6), [], (.new [])⟩,
⟨(some 121), (some (118, true)), .len (.t 120), [], (.new [])⟩,
⟨(some 122), (some (118, true)), .bin .eql (.t 119) (.t 121), [], (.new [])⟩,
sq 123 (.pick (.t 118) (.t 122) (kB false)),
sq 4 (.mv (.t 123))]))
 .ret)))))))⟩
theorem a6_ok : afn Try.prog 6 = some a6.er := by kernel_rfl
theorem F6_ok {x0 : (List TOp)} {x1 : Filter} {r : Bool} (h : F6 x0 x1 = some r) : CallD Try.prog 6 [.c (.d (.sl (x0.map eTOp))), .agg [.d (.v (.string x1.Kind)), .d (.v (.string x1.Namespace)), .d (.sl (x1.Selector.map eRequirement))]] [] (tupV [.c (.d (.v (.bool r)))]) [] := by
 refine callS a6_ok (by simp [a6]) ?_
 rw [F6] at h
 simp only [a6, VW.down, Nat.reduceEqDiff, reduceCtorEq, Nat.reduceAdd, Nat.reduceLeDiff, Nat.reduceLT, Nat.reduceBEq, Nat.reduceSub, EE.down]
 obtain ⟨o1, ho, h⟩ := bi h
 refine cutS (fun s => s = ⟨[(0, .one (.c (.d (.sl (x0.map eTOp))))), (3, .one (.c (.pt 0 0))), (20, .one (.c (.d (.v (.bool o1)))))], [some (.box [.d (.v (.string x1.Kind)), .d (.v (.string x1.Namespace)), .d (.sl (x1.Selector.map eRequirement))])]⟩) ?_ ?_
 ·have h := ho
  clear ho
  refine ww ?_
  obtain ⟨t2, ht2, h⟩ := bi h
  refine cN [] (F7_ok ht2) trivial ?_
  refine ww ?_
  refine guardSBh h (fun g3 h => ?_) (fun g3 h => ?_)
  ·refine ww ?_
   obtain rfl := Option.some.inj h
   exact eM [some 0] rfl
  ·refine ww ?_
   obtain rfl := Option.some.inj h
   exact eM [some 0] rfl
 ·rintro _ rfl
  clear ho
  refine ww ?_
  refine condBh h (fun c4 h => ?_) (fun c4 h => ?_)
  ·refine ww ?_
   obtain ⟨t5, ht5, h⟩ := bi h
   refine cN [] (F8_ok ht5) trivial ?_
   refine ww ?_
   obtain rfl := Option.some.inj h
   exact eF []
  ·refine ww ?_
   obtain ⟨t6, ht6, h⟩ := bi h
   refine cN [] (F14_ok ht6) trivial ?_
   refine ww ?_
   obtain ⟨t7, ht7, h⟩ := bi h
   refine cN [] (F20_ok ht7) trivial ?_
   refine ww ?_
   obtain ⟨o8, ho, h⟩ := bi h
   refine cutS (fun s => ∃ po8, o8 = Sum.inr po8 ∧ s = ⟨[(6, .one (.c (.own 0 0 0 (t7.length) none))), (7, .one (.c (.d (.v (.int .i64 po8)))))], [some (.arr 0 23 (t7.map eObject))]⟩) ?_ ?_
   ·have h0o8 := h
    have h := ho
    clear ho
    obtain ⟨_, hk, h⟩ := bi h
    have hk := ck_some hk
    refine ww ?_
    refine bL (fun j s => ∃ (o8_1 : Nat) (o8_0 : Int), (o8_1 ≤ (((t6).Objects)).length ∧ j = (((t6).Objects)).length - o8_1) ∧ s = ⟨[(3, .one (.c (.pt 0 0))), (5, .one (.c (.pt 1 0))), (6, .one (.c (.own 2 0 0 (t7.length) none))), (7, .one (.c (.d (.v (.int .i64 o8_0))))), (8, .one (.c (.d (.v (.int .i64 ((o8_1 : Int)))))))], [some (.box [.d (.v (.string x1.Kind)), .d (.v (.string x1.Namespace)), .d (.sl (x1.Selector.map eRequirement))]), some (.box [.d (.v (.int .i64 ((t6).Rev))), .d (.v (.int .i64 ((t6).Floor))), .d (.v (.int .i64 ((t6).NextUid))), .d (.sl (((t6).Base).map eObject)), .d (.sl (((t6).Objects).map eObject)), .d (.sl (((t6).History).map eChange))]), some (.arr 0 23 (t7.map eObject))]⟩ ∧ F6_l8 t6 t7 x1 ((((t6).Objects)).drop o8_1) o8_1 o8_0 = some o8) ((((t6).Objects)).length - 0) [some 0, some 1, some 2] ⟨0, 0, ⟨hk.1, rfl⟩, rfl, h⟩ ?_
    rintro _ _ ⟨o8_1, o8_0, ⟨hi, rfl⟩, rfl, h⟩
    refine ww ?_
    refine condS (fun c9 => ?_) (fun c9 => ?_)
    ·obtain ⟨xo8, hxo8, hd⟩ := countY (show (o8_1 : Int) < ((((t6).Objects)).length : Int) from c9)
     rw [hd, F6_l8] at h
     refine ww ?_
     obtain ⟨o10, ho, h⟩ := bi h
     refine cutS (fun s => ∃ po10, o10 = Sum.inr po10 ∧ s = ⟨[(3, .one (.c (.pt 0 0))), (5, .one (.c (.pt 1 0))), (6, .one (.c (.own 2 0 0 (t7.length) none))), (7, .one (.c (.d (.v (.int .i64 po10))))), (8, .one (.c (.d (.v (.int .i64 ((o8_1 : Int)))))))], [some (.box [.d (.v (.string x1.Kind)), .d (.v (.string x1.Namespace)), .d (.sl (x1.Selector.map eRequirement))]), some (.box [.d (.v (.int .i64 ((t6).Rev))), .d (.v (.int .i64 ((t6).Floor))), .d (.v (.int .i64 ((t6).NextUid))), .d (.sl (((t6).Base).map eObject)), .d (.sl (((t6).Objects).map eObject)), .d (.sl (((t6).History).map eChange))]), some (.arr 0 23 (t7.map eObject))]⟩) ?_ ?_
     ·have h0o10 := h
      have h := ho
      clear ho
      refine ww ?_
      obtain ⟨y11, hy11, h⟩ := bi h
      refine t_idxF (enc := eObject) (xs := ((t6).Objects)) rfl rfl hy11 rfl ?_
      refine ww ?_
      obtain ⟨t12, ht12, h⟩ := bi h
      refine cN [] (F22_ok ht12) trivial ?_
      refine ww ?_
      obtain ⟨t13, ht13, h⟩ := bi h
      refine cN [] (F21_ok ht13) trivial ?_
      refine ww ?_
      refine kD_new (by simp [wrs, allW, hset]) ?_
      refine ww ?_
      refine kD_new (by simp [wrs, allW, hset]) ?_
      refine ww ?_
      obtain ⟨o14, ho, h⟩ := bi h
      refine cutS (fun s => s = ⟨[(3, .one (.c (.pt 0 0))), (5, .one (.c (.pt 1 0))), (6, .one (.c (.own 2 0 0 (t7.length) none))), (7, .one (.c (.d (.v (.int .i64 o8_0))))), (8, .one (.c (.d (.v (.int .i64 ((o8_1 : Int))))))), (9, .one (.c (.pt 3 0))), (69, .one (.c (.d (.v (.bool o14)))))], [some (.box [.d (.v (.string x1.Kind)), .d (.v (.string x1.Namespace)), .d (.sl (x1.Selector.map eRequirement))]), some (.box [.d (.v (.int .i64 ((t6).Rev))), .d (.v (.int .i64 ((t6).Floor))), .d (.v (.int .i64 ((t6).NextUid))), .d (.sl (((t6).Base).map eObject)), .d (.sl (((t6).Objects).map eObject)), .d (.sl (((t6).History).map eChange))]), some (.arr 0 23 (t7.map eObject)), some (.box [.d (.v (.string y11.Meta.Kind)), .d (.v (.string y11.Meta.Namespace)), .d (.v (.string y11.Meta.Name)), .d (.v (.int .i64 y11.Meta.Uid)), .d (.v (.int .i64 y11.Meta.Version)), .d (.v (.int .i64 y11.Meta.Generation)), .d (.v (.int .i64 y11.Meta.Created)), .d (.v (.bool y11.Meta.Deleting)), .d (.v (.int .i64 y11.Meta.DeleteAt)), .d (.sl (y11.Meta.Labels.map eLabel)), .d (.sl (y11.Meta.Owners.map eOwner)), .d (.sl (y11.Meta.Finalizers.map eS)), .d (.sl (y11.Meta.Managers.map eManager)), .d (.v (.int .i64 y11.Spec.Kind)), .d (.v (.int .i64 y11.Spec.N)), .d (.v (.string y11.Spec.S)), .d (.sl (y11.Spec.List_.map eTValue)), .d (.sl (y11.Spec.Fields.map eTField)), .d (.v (.int .i64 y11.Status.Kind)), .d (.v (.int .i64 y11.Status.N)), .d (.v (.string y11.Status.S)), .d (.sl (y11.Status.List_.map eTValue)), .d (.sl (y11.Status.Fields.map eTField))])]⟩) ?_ ?_
      ·have h := ho
       clear ho
       refine ww ?_
       refine guardDBh h (fun g15 h => ?_) (fun g15 h => ?_)
       ·refine ww ?_
        obtain rfl := Option.some.inj h
        exact eM [some 0, some 1, some 2, some 3] rfl
       ·refine ww ?_
        obtain ⟨t16, ht16, h⟩ := bi h
        refine callX_bor (F13_ok ht16) (by simp only [borAs, bors, hp, List.getElem?_cons_zero, List.getElem?_cons_succ, Option.join_some, List.drop_zero, bor_full', true_and, Nat.zero_add, List.length_map, Nat.le_refl, nrm, List.length_cons, List.length_nil, Nat.reduceAdd, Nat.reduceLeDiff, List.take_succ_cons, List.take_zero, List.take_nil, List.map_cons, List.map_nil, List.length_set, EE.down]) rfl ?_
        refine ww ?_
        refine guardDBh h (fun g17 h => ?_) (fun g17 h => ?_)
        ·refine ww ?_
         obtain rfl := Option.some.inj h
         exact eM [some 0, some 1, some 2, some 3] rfl
        ·refine ww ?_
         refine guardDh h (fun g18 h => ?_) (fun g18 h => ?_)
         ·refine ww ?_
          obtain ⟨y19, hy19, h⟩ := bi h
          refine t_idxF (enc := eObject) (xs := ((t6).Objects)) rfl rfl hy19 rfl ?_
          refine ww ?_
          obtain ⟨t20, ht20, h⟩ := bi h
          refine cN [] (F22_ok ht20) trivial ?_
          refine ww ?_
          obtain ⟨t21, ht21, h⟩ := bi h
          refine cN [] (F22_ok ht21) trivial ?_
          refine ww ?_
          obtain rfl := Option.some.inj h
          exact eM [some 0, some 1, some 2, some 3] rfl
         ·refine ww ?_
          obtain rfl := Option.some.inj h
          exact eM [some 0, some 1, some 2, some 3] rfl
      ·rintro _ rfl
       clear ho
       refine ww ?_
       refine condBh h (fun c22 h => ?_) (fun c22 h => ?_)
       ·refine ww ?_
        obtain ⟨fh0o10, hfh0o10, rfl⟩ := Option.map_eq_some_iff.1 h
        have h := hfh0o10.trans h0o10
        obtain ⟨fh0o8, hfh0o8, rfl⟩ := Option.map_eq_some_iff.1 h
        have h := hfh0o8.trans h0o8
        obtain rfl := Option.some.inj h
        exact eF []
       ·refine ww ?_
        obtain ⟨o23, ho, h⟩ := bi h
        refine cutS (fun s => s = ⟨[(3, .one (.c (.pt 0 0))), (5, .one (.c (.pt 1 0))), (6, .one (.c (.own 2 0 0 (t7.length) none))), (7, .one (.c (.d (.v (.int .i64 o8_0))))), (8, .one (.c (.d (.v (.int .i64 ((o8_1 : Int))))))), (9, .one (.c (.pt 3 0))), (101, .one (.c (.d (.v (.bool o23)))))], [some (.box [.d (.v (.string x1.Kind)), .d (.v (.string x1.Namespace)), .d (.sl (x1.Selector.map eRequirement))]), some (.box [.d (.v (.int .i64 ((t6).Rev))), .d (.v (.int .i64 ((t6).Floor))), .d (.v (.int .i64 ((t6).NextUid))), .d (.sl (((t6).Base).map eObject)), .d (.sl (((t6).Objects).map eObject)), .d (.sl (((t6).History).map eChange))]), some (.arr 0 23 (t7.map eObject)), some (.box [.d (.v (.string y11.Meta.Kind)), .d (.v (.string y11.Meta.Namespace)), .d (.v (.string y11.Meta.Name)), .d (.v (.int .i64 y11.Meta.Uid)), .d (.v (.int .i64 y11.Meta.Version)), .d (.v (.int .i64 y11.Meta.Generation)), .d (.v (.int .i64 y11.Meta.Created)), .d (.v (.bool y11.Meta.Deleting)), .d (.v (.int .i64 y11.Meta.DeleteAt)), .d (.sl (y11.Meta.Labels.map eLabel)), .d (.sl (y11.Meta.Owners.map eOwner)), .d (.sl (y11.Meta.Finalizers.map eS)), .d (.sl (y11.Meta.Managers.map eManager)), .d (.v (.int .i64 y11.Spec.Kind)), .d (.v (.int .i64 y11.Spec.N)), .d (.v (.string y11.Spec.S)), .d (.sl (y11.Spec.List_.map eTValue)), .d (.sl (y11.Spec.Fields.map eTField)), .d (.v (.int .i64 y11.Status.Kind)), .d (.v (.int .i64 y11.Status.N)), .d (.v (.string y11.Status.S)), .d (.sl (y11.Status.List_.map eTValue)), .d (.sl (y11.Status.Fields.map eTField))])]⟩) ?_ ?_
        ·have h := ho
         clear ho
         refine ww ?_
         refine guardSh h (fun g24 h => ?_) (fun g24 h => ?_)
         ·refine ww ?_
          refine guardSh h (fun g25 h => ?_) (fun g25 h => ?_)
          ·refine ww ?_
           obtain ⟨t26, ht26, h⟩ := bi h
           refine cN [] (F23_ok ht26) trivial ?_
           refine ww ?_
           obtain rfl := Option.some.inj h
           exact eM [some 0, some 1, some 2, some 3] rfl
          ·refine ww ?_
           refine guardSh h (fun g27 h => ?_) (fun g27 h => ?_)
           ·refine ww ?_
            obtain ⟨t28, ht28, h⟩ := bi h
            refine cN [] (F23_ok ht28) trivial ?_
            refine ww ?_
            obtain rfl := Option.some.inj h
            exact eM [some 0, some 1, some 2, some 3] rfl
           ·refine ww ?_
            obtain rfl := Option.some.inj h
            exact eM [some 0, some 1, some 2, some 3] rfl
         ·refine ww ?_
          refine guardSh h (fun g29 h => ?_) (fun g29 h => ?_)
          ·refine ww ?_
           refine guardSh h (fun g30 h => ?_) (fun g30 h => ?_)
           ·refine ww ?_
            obtain ⟨t31, ht31, h⟩ := bi h
            refine cN [] (F23_ok ht31) trivial ?_
            refine ww ?_
            obtain rfl := Option.some.inj h
            exact eM [some 0, some 1, some 2, some 3] rfl
           ·refine ww ?_
            refine guardSh h (fun g32 h => ?_) (fun g32 h => ?_)
            ·refine ww ?_
             obtain ⟨t33, ht33, h⟩ := bi h
             refine cN [] (F23_ok ht33) trivial ?_
             refine ww ?_
             obtain rfl := Option.some.inj h
             exact eM [some 0, some 1, some 2, some 3] rfl
            ·refine ww ?_
             obtain rfl := Option.some.inj h
             exact eM [some 0, some 1, some 2, some 3] rfl
          ·refine ww ?_
           obtain rfl := Option.some.inj h
           exact eM [some 0, some 1, some 2, some 3] rfl
        ·rintro _ rfl
         clear ho
         refine ww ?_
         refine condBh h (fun c34 h => ?_) (fun c34 h => ?_)
         ·refine ww ?_
          obtain ⟨o35, ho, h⟩ := bi h
          refine cutS (fun s => s = ⟨[(3, .one (.c (.pt 0 0))), (5, .one (.c (.pt 1 0))), (6, .one (.c (.own 2 0 0 (t7.length) none))), (7, .one (.c (.d (.v (.int .i64 o8_0))))), (8, .one (.c (.d (.v (.int .i64 ((o8_1 : Int))))))), (114, .one (.c (.d (.v (.bool o35)))))], [some (.box [.d (.v (.string x1.Kind)), .d (.v (.string x1.Namespace)), .d (.sl (x1.Selector.map eRequirement))]), some (.box [.d (.v (.int .i64 ((t6).Rev))), .d (.v (.int .i64 ((t6).Floor))), .d (.v (.int .i64 ((t6).NextUid))), .d (.sl (((t6).Base).map eObject)), .d (.sl (((t6).Objects).map eObject)), .d (.sl (((t6).History).map eChange))]), some (.arr 0 23 (t7.map eObject))]⟩) ?_ ?_
          ·have h := ho
           clear ho
           refine ww ?_
           refine guardDh h (fun g36 h => ?_) (fun g36 h => ?_)
           ·refine ww ?_
            obtain rfl := Option.some.inj h
            exact eM [some 0, some 1, some 2] rfl
           ·refine ww ?_
            obtain ⟨y37, hy37, h⟩ := bi h
            refine t_idxO (enc := eObject) (xs := t7) rfl rfl rfl (by first | rfl | simp only [List.length_set] | exact (clrL_len (slI_len (by assumption))).symm) hy37 ?_
            refine ww ?_
            refine LdRow.rd (rdI_some hy37).2.1 ?_
            refine ww ?_
            obtain ⟨t38, ht38, h⟩ := bi h
            refine cN [] (F13_ok ht38) trivial ?_
            refine ww ?_
            obtain rfl := Option.some.inj h
            exact eM [some 0, some 1, some 2] rfl
          ·rintro _ rfl
           clear ho
           refine ww ?_
           refine condBh h (fun c39 h => ?_) (fun c39 h => ?_)
           ·refine ww ?_
            obtain ⟨fh0o10, hfh0o10, rfl⟩ := Option.map_eq_some_iff.1 h
            have h := hfh0o10.trans h0o10
            obtain ⟨fh0o8, hfh0o8, rfl⟩ := Option.map_eq_some_iff.1 h
            have h := hfh0o8.trans h0o8
            obtain rfl := Option.some.inj h
            exact eF []
           ·refine ww ?_
            obtain rfl := Option.some.inj h
            exact eM [some 0, some 1, some 2] ⟨_, rfl, rfl⟩
         ·refine ww ?_
          obtain rfl := Option.some.inj h
          exact eM [some 0, some 1, some 2] ⟨_, rfl, rfl⟩
     ·rintro _ ⟨po10, rfl, rfl⟩
      clear ho
      dsimp only at h
      refine ww ?_
      rw [wrapN (by omega)]
      exact eL' ((((t6).Objects)).length - (o8_1 + 1)) [some 0, some 1, some 2] ⟨o8_1 + 1, po10, ⟨by omega, rfl⟩, rfl, h⟩ (by omega)
    ·rw [countN (show ¬ ((o8_1 : Int) < ((((t6).Objects)).length : Int)) from c9), F6_l8] at h
     refine ww ?_
     obtain rfl := Option.some.inj h
     exact eM [some 2] ⟨_, rfl, rfl⟩
   ·rintro _ ⟨po8, rfl, rfl⟩
    clear ho
    dsimp only at h
    refine ww ?_
    obtain ⟨o41, ho, h⟩ := bi h
    refine cutS (fun s => s = ⟨[(4, .one (.c (.d (.v (.bool o41)))))], []⟩) ?_ ?_
    ·have h := ho
     clear ho
     refine ww ?_
     obtain ⟨t42, ht42, h⟩ := bi h
     refine cN [] (F8_ok ht42) trivial ?_
     refine ww ?_
     refine guardSBh h (fun g43 h => ?_) (fun g43 h => ?_)
     ·refine ww ?_
      obtain rfl := Option.some.inj h
      exact eM [] rfl
     ·refine ww ?_
      obtain rfl := Option.some.inj h
      exact eM [] rfl
    ·rintro _ rfl
     clear ho
     refine ww ?_
     obtain rfl := Option.some.inj h
     exact eF []

end Go.Proofs.Ytbopaemngpbdgaa
