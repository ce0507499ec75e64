/- Each Go function as a function over typed data, and its walk. -/
import Derived.Test.YtbopaemngpbdgaaRX
namespace Go.Proofs.Ytbopaemngpbdgaa
open Go Go.Fw Go.Shelf
set_option maxRecDepth 100000
set_option maxHeartbeats 4000000
set_option linter.unusedSimpArgs false
set_option linter.unusedVariables false
/- orchestrator/value.valid -/
def F87_l16 (rc28 : TValue → Int → Option (Bool)) (x1 : Int) : List TValue → Nat → Option ((Bool) ⊕ (Unit))
  | [], o16_0 => some (Sum.inr (()))
  | xo16 :: xs, o16_0 => (rc28 xo16 ((IntKind.i64.wrap (x1 - 1)))).bind fun t18 => (if (nb t18) = true then (some false).map Sum.inl else F87_l16 rc28 x1 xs (o16_0 + 1))
def F87_l21 (rc28 : TValue → Int → Option (Bool)) (x0 : TValue) (x1 : Int) : List TField → Nat → Option ((Bool) ⊕ (Unit))
  | [], o21_0 => some (Sum.inr (()))
  | xo21 :: xs, o21_0 => (((F105 xo21.Name).bind fun t24 => (if (nb t24) = true then some true else (if 0 < (o21_0 : Int) then (rdI x0.Fields ((IntKind.i64.wrap (((o21_0 : Int)) - 1)))).bind fun y27 => (if (nb (Op.bytesLess y27.Name.toList xo21.Name.toList)) = true then some true else (rc28 xo21.V ((IntKind.i64.wrap (x1 - 1)))).bind fun t29 => some (nb t29)) else (rc28 xo21.V ((IntKind.i64.wrap (x1 - 1)))).bind fun t30 => some (nb t30)))).bind fun o23 => (if o23 = true then (some false).map Sum.inl else F87_l21 rc28 x0 x1 xs (o21_0 + 1)))
def F87 (rc28 : TValue → Int → Option (Bool)) (x0 : TValue) (x1 : Int) : Option (Bool) := (((if x1 = 0 then some true else (F104 x0).bind fun t3 => (if (nb t3) = true then some true else (if ¬ (x0.Kind = 4) then (if 0 < (x0.List_.length : Int) then some true else (if ¬ (x0.Kind = 5) then (if 0 < (x0.Fields.length : Int) then some true else (if 64 < (x0.List_.length : Int) then some true else some (decide (64 < (x0.Fields.length : Int))))) else (if 64 < (x0.List_.length : Int) then some true else some (decide (64 < (x0.Fields.length : Int)))))) else (if ¬ (x0.Kind = 5) then (if 0 < (x0.Fields.length : Int) then some true else (if 64 < (x0.List_.length : Int) then some true else some (decide (64 < (x0.Fields.length : Int))))) else (if 64 < (x0.List_.length : Int) then some true else some (decide (64 < (x0.Fields.length : Int))))))))).bind fun o1 => (if o1 = true then some false else (((ck (0 ≤ x0.List_.length ∧ x0.List_.length ≤ 4294967290)).bind fun u20 => F87_l16 rc28 x1 x0.List_ 0 : Option ((Bool) ⊕ (Unit))).bind fun o16 => match o16 with | Sum.inl f => some f | Sum.inr po16 => (((ck (0 ≤ x0.Fields.length ∧ x0.Fields.length ≤ 4294967290)).bind fun u32 => F87_l21 rc28 x0 x1 x0.Fields 0 : Option ((Bool) ⊕ (Unit))).bind fun o21 => match o21 with | Sum.inl f => some f | Sum.inr po21 => some true))))
def a87 : AFn := ⟨100, [(.tmp 4)],
 (.seq (.reg [sq 2 (.box (.t 0)),
sq 4 (.mv (kB false))])
 (.seq (.seq (.sem (.reg [sq 9 (.mv (.t 1)),
sq 10 (.bin .eql (.t 9) (kI 0)),
sq 11 (.mv (.t 10)),
⟨(some 12), (some (11, false)), .load (some 5) (.t 2), [], (.new [])⟩,
⟨(some 13), (some (11, false)), .call 104 [(.t 12)], [], (.new [])⟩,
⟨(some 14), (some (11, false)), .not (.t 13), [], (.new [])⟩,
sq 15 (.pick (.t 11) (kB true) (.t 14)),
sq 16 (.mv (.t 15)),
⟨(some 17), (some (16, false)), .fieldA 0 (.t 2), [], (.new [])⟩,
⟨(some 18), (some (16, false)), .load none (.t 17), [], (.new [])⟩,
⟨(some 19), (some (16, false)), .bin .neq (.t 18) (kI 4), [], (.new [])⟩,
⟨(some 20), (some (16, false)), .mv (.t 19), [], (.new [])⟩,
⟨(some 21), (some (20, true)), .fieldA 3 (.t 2), [], (.new [])⟩,
⟨(some 22), (some (20, true)), .load none (.t 21), [], (.new [])⟩,
⟨(some 23), (some (20, true)), .len (.t 22), [], (.new [])⟩,
⟨(some 24), (some (20, true)), .bin .gtr (.t 23) (kI 0), [], (.new [])⟩,
⟨(some 25), (some (16, false)), .pick (.t 20) (.t 24) (kB false), [], (.new [])⟩,
sq 26 (.pick (.t 16) (kB true) (.t 25)),
sq 27 (.mv (.t 26)),
⟨(some 28), (some (27, false)), .fieldA 0 (.t 2), [], (.new [])⟩,
⟨(some 29), (some (27, false)), .load none (.t 28), [], (.new [])⟩,
⟨(some 30), (some (27, false)), .bin .neq (.t 29) (kI 5), [], (.new [])⟩,
⟨(some 31), (some (27, false)), .mv (.t 30), [], (.new [])⟩,
⟨(some 32), (some (31, true)), .fieldA 4 (.t 2), [], (.new [])⟩,
⟨(some 33), (some (31, true)), .load none (.t 32), [], (.new [])⟩,
⟨(some 34), (some (31, true)), .len (.t 33), [], (.new [])⟩,
⟨(some 35), (some (31, true)), .bin .gtr (.t 34) (kI 0), [], (.new [])⟩,
⟨(some 36), (some (27, false)), .pick (.t 31) (.t 35) (kB false), [], (.new [])⟩,
sq 37 (.pick (.t 27) (kB true) (.t 36)),
sq 38 (.mv (.t 37)),
⟨(some 39), (some (38, false)), .fieldA 3 (.t 2), [], (.new [])⟩,
⟨(some 40), (some (38, false)), .load none (.t 39), [], (.new [])⟩,
⟨(some 41), (some (38, false)), .len (.t 40), [], (.new [])⟩,
⟨(some 42), (some (38, false)), .bin .gtr (.t 41) (kI 64), [], (.new [])⟩,
sq 43 (.pick (.t 38) (kB true) (.t 42)),
sq 44 (.mv (.t 43)),
⟨(some 45), (some (44, false)), .fieldA 4 (.t 2), [], (.new [])⟩,
⟨(some 46), (some (44, false)), .load none (.t 45), [], (.new [])⟩,
⟨(some 47), (some (44, false)), .len (.t 46), [], (.new [])⟩,
⟨(some 48), (some (44, false)), .bin .gtr (.t 47) (kI 64), [], (.new [])⟩,
sq 49 (.pick (.t 44) (kB true) (.t 48))]))
 (.cond (.t 49)
 (.seq (.reg [sq 4 (.mv (kB false))])
 .ret)
 .skip))
 (.seq (.seq (.reg [sq 50 (.fieldA 3 (.t 2)),
sq 51 (.load none (.t 50)),
sq 52 (.len (.t 51)),
sq 53 (.mv (kI 0))])
 (.sem (.block 0 (.loop (.seq (.reg [sq 54 (.bin .lss (.t 53) (.t 52))])
 (.seq (.cond (.t 54)
 .skip
 (.exit 0))
 (.seq (.block 1 (.seq (.reg [sq 55 (.indexA 5 (.t 51) (.t 53)),
sq 56 (.load (some 5) (.t 55)),
sq 6 (.zbox [dI 0, dI 0, dS ⟨#[]⟩, dN, dN]),
su (.store 5 (.t 6) (.t 56))])
 (.seq (.reg [sq 57 (.load (some 5) (.t 6)),
sq 58 (.mv (.t 1)),
sq 59 (.bin .sub (.t 58) (kI 1)),
sq 60 (.call 87 [(.t 57), (.t 59)]),
sq 61 (.not (.t 60))])
 (.cond (.t 61)
 (.seq (.reg [sq 4 (.mv (kB false))])
 .ret)
 .skip))))
 (.reg [sq 62 (.bin .add (.t 53) (kI 1)),
sq 53 (.mv (.t 62))]))))))))
 (.seq (.seq (.reg [sq 63 (.fieldA 4 (.t 2)),
sq 64 (.load none (.t 63)),
sq 65 (.len (.t 64)),
sq 66 (.mv (kI 0))])
 (.sem (.block 2 (.loop (.seq (.reg [sq 67 (.bin .lss (.t 66) (.t 65))])
 (.seq (.cond (.t 67)
 .skip
 (.exit 2))
 (.seq (.block 3 (.seq (.reg [sq 68 (.mv (.t 66)),
sq 69 (.indexA 6 (.t 64) (.t 66)),
sq 70 (.load (some 6) (.t 69)),
sq 8 (.zbox [dS ⟨#[]⟩, dI 0, dI 0, dS ⟨#[]⟩, dN, dN]),
sq 7 (.mv (.t 68)),
su (.store 6 (.t 8) (.t 70))])
 (.seq (.sem (.regd [sq 71 (.fieldA 0 (.t 8)),
sd 72 (.load none (.t 71)) [0],
⟨(some 73), none, .call 105 [(.t 72)], [0, 1], (.lone [])⟩,
sd 74 (.not (.t 73)) [0, 1, 2],
sd 75 (.mv (.t 74)) [0, 1, 2, 3],
⟨(some 76), (some (75, false)), .mv (.t 7), [0, 1, 2, 3, 4], (.new [])⟩,
⟨(some 77), (some (75, false)), .bin .gtr (.t 76) (kI 0), [0, 1, 2, 3, 4, 5], (.new [])⟩,
⟨(some 78), (some (75, false)), .mv (.t 77), [0, 1, 2, 3, 4, 5, 6], (.new [])⟩,
⟨(some 79), (some (78, true)), .fieldA 4 (.t 2), [0, 1, 2, 3, 4, 5, 6, 7], (.new [])⟩,
⟨(some 80), (some (78, true)), .load none (.t 79), [0, 1, 2, 3, 4, 5, 6, 7, 8], (.new [])⟩,
⟨(some 81), (some (78, true)), .mv (.t 7), [0, 1, 2, 3, 4, 5, 6, 7], (.new [])⟩,
⟨(some 82), (some (78, true)), .bin .sub (.t 81) (kI 1), [0, 1, 2, 3, 4, 5, 6, 7, 10], (.new [])⟩,
⟨(some 83), (some (78, true)), .indexA 6 (.t 80) (.t 82), [0, 1, 2, 3, 4, 5, 6, 7, 8, 9, 10, 11], (.new [])⟩,
⟨(some 84), (some (78, true)), .fieldA 0 (.t 83), [0, 1, 2, 3, 4, 5, 6, 7, 8, 9, 10, 11, 12], (.new [])⟩,
⟨(some 85), (some (78, true)), .load none (.t 84), [0, 1, 2, 3, 4, 5, 6, 7, 8, 9, 10, 11, 12, 13], (.new [])⟩,
⟨(some 86), (some (78, true)), .fieldA 0 (.t 8), [0, 1, 2, 3, 4, 5, 6, 7], (.new [])⟩,
⟨(some 87), (some (78, true)), .load none (.t 86), [0, 1, 2, 3, 4, 5, 6, 7, 15], (.new [])⟩,
⟨(some 88), (some (78, true)), .bin .geq (.t 85) (.t 87), [0, 1, 2, 3, 4, 5, 6, 7, 8, 9, 10, 11, 12, 13, 14, 15, 16], (.new [])⟩,
⟨(some 89), (some (75, false)), .pick (.t 78) (.t 88) (kB false), [0, 1, 2, 3, 4, 5, 6, 7, 8, 9, 10, 11, 12, 13, 14, 15, 16, 17], (.lone [])⟩,
⟨(some 90), none, .pick (.t 75) (kB true) (.t 89), [0, 1, 2, 3, 4, 5, 6, 7, 8, 9, 10, 11, 12, 13, 14, 15, 16, 17, 18], (.lone [])⟩,
sd 91 (.mv (.t 90)) [0, 1, 2, 3, 4, 5, 6, 7, 8, 9, 10, 11, 12, 13, 14, 15, 16, 17, 18, 19],
⟨(some 92), (some (91, false)), .fieldA 1 (.t 8), [0, 1, 2, 3, 4, 5, 6, 7, 8, 9, 10, 11, 12, 13, 14, 15, 16, 17, 18, 19, 20], (.new [])⟩,
⟨(some 93), (some (91, false)), .load (some 5) (.t 92), [0, 1, 2, 3, 4, 5, 6, 7, 8, 9, 10, 11, 12, 13, 14, 15, 16, 17, 18, 19, 20, 21], (.new [])⟩,
⟨(some 94), (some (91, false)), .mv (.t 1), [0, 1, 2, 3, 4, 5, 6, 7, 8, 9, 10, 11, 12, 13, 14, 15, 16, 17, 18, 19, 20], (.new [])⟩,
⟨(some 95), (some (91, false)), .bin .sub (.t 94) (kI 1), [0, 1, 2, 3, 4, 5, 6, 7, 8, 9, 10, 11, 12, 13, 14, 15, 16, 17, 18, 19, 20, 23], (.new [])⟩,
⟨(some 96), (some (91, false)), .call 87 [(.t 93), (.t 95)], [0, 1, 2, 3, 4, 5, 6, 7, 8, 9, 10, 11, 12, 13, 14, 15, 16, 17, 18, 19, 20, 21, 22, 23, 24], (.lone [])⟩,
⟨(some 97), (some (91, false)), .not (.t 96), [0, 1, 2, 3, 4, 5, 6, 7, 8, 9, 10, 11, 12, 13, 14, 15, 16, 17, 18, 19, 20, 21, 22, 23, 24, 25], (.new [])⟩,
⟨(some 98), none, .pick (.t 91) (kB true) (.t 97), [0, 1, 2, 3, 4, 5, 6, 7, 8, 9, 10, 11, 12, 13, 14, 15, 16, 17, 18, 19, 20, 21, 22, 23, 24, 25, 26], (.lone [])⟩]))
 (.cond (.t 98)
 (.seq (.reg [sq 4 (.mv (kB false))])
 .ret)
 .skip))))
 (.reg [sq 99 (.bin .add (.t 66) (kI 1)),
sq 66 (.mv (.t 99))]))))))))
 (.seq (.reg [sq 4 (.mv (kB true))])
 .ret)))))⟩
theorem a87_ok : afn Try.prog 87 = some a87.er := by kernel_rfl
theorem F87_ok {rc28 : TValue → Int → Option (Bool)} (ih28 : ∀ {x0 : TValue} {x1 : Int} {r : Bool} (h : rc28 x0 x1 = some r), CallD Try.prog 87 [.agg [dI x0.Kind, dI x0.N, dS x0.S, dM (x0.List_.map eTValue), dM (x0.Fields.map eTField)], .c (dI x1)] [] (tupV [.c (dB r)]) [])  {x0 : TValue} {x1 : Int} {r : Bool} (h : F87 rc28 x0 x1 = some r) : CallD Try.prog 87 [.agg [dI x0.Kind, dI x0.N, dS x0.S, dM (x0.List_.map eTValue), dM (x0.Fields.map eTField)], .c (dI x1)] [] (tupV [.c (dB r)]) [] := by
 refine callS a87_ok (by simp [a87]) ?_
 rw [F87] at h
 simp only [a87, VW.down, Nat.reduceEqDiff, reduceCtorEq, Nat.reduceAdd, Nat.reduceLeDiff, Nat.reduceLT, Nat.reduceBEq, Nat.reduceSub, EE.down]
 obtain ⟨o1, ho, h⟩ := bi h
 refine cutS (fun s => s = ⟨[(1, .one (.c (dI x1))), (2, .one (.c (.pt 0 0))), (49, .one (.c (dB o1)))], [some (.box [dI x0.Kind, dI x0.N, dS x0.S, dM (x0.List_.map eTValue), dM (x0.Fields.map eTField)])]⟩) ?_ ?_
 ·have h := ho
  clear ho
  refine ww ?_
  refine guardSh h (fun g2 h => ?_) (fun g2 h => ?_)
  ·refine ww ?_
   cases h
   exact eM [some 0] rfl
  ·refine ww ?_
   obtain ⟨t3, ht3, h⟩ := bi h
   refine cN [] (F104_ok ht3) trivial ?_
   refine ww ?_
   refine guardSBh h (fun g4 h => ?_) (fun g4 h => ?_)
   ·refine ww ?_
    cases h
    exact eM [some 0] rfl
   ·refine ww ?_
    refine guardSh h (fun g5 h => ?_) (fun g5 h => ?_)
    ·refine ww ?_
     refine guardSh h (fun g6 h => ?_) (fun g6 h => ?_)
     ·refine ww ?_
      cases h
      exact eM [some 0] rfl
     ·refine ww ?_
      refine guardSh h (fun g7 h => ?_) (fun g7 h => ?_)
      ·refine ww ?_
       refine guardSh h (fun g8 h => ?_) (fun g8 h => ?_)
       ·refine ww ?_
        cases h
        exact eM [some 0] rfl
       ·refine ww ?_
        refine guardSh h (fun g9 h => ?_) (fun g9 h => ?_)
        ·refine ww ?_
         cases h
         exact eM [some 0] rfl
        ·refine ww ?_
         cases h
         exact eM [some 0] rfl
      ·refine ww ?_
       refine guardSh h (fun g10 h => ?_) (fun g10 h => ?_)
       ·refine ww ?_
        cases h
        exact eM [some 0] rfl
       ·refine ww ?_
        cases h
        exact eM [some 0] rfl
    ·refine ww ?_
     refine guardSh h (fun g11 h => ?_) (fun g11 h => ?_)
     ·refine ww ?_
      refine guardSh h (fun g12 h => ?_) (fun g12 h => ?_)
      ·refine ww ?_
       cases h
       exact eM [some 0] rfl
      ·refine ww ?_
       refine guardSh h (fun g13 h => ?_) (fun g13 h => ?_)
       ·refine ww ?_
        cases h
        exact eM [some 0] rfl
       ·refine ww ?_
        cases h
        exact eM [some 0] rfl
     ·refine ww ?_
      refine guardSh h (fun g14 h => ?_) (fun g14 h => ?_)
      ·refine ww ?_
       cases h
       exact eM [some 0] rfl
      ·refine ww ?_
       cases h
       exact eM [some 0] rfl
 ·rintro _ rfl
  clear ho
  refine ww ?_
  refine condBh h (fun c15 h => ?_) (fun c15 h => ?_)
  ·refine ww ?_
   cases h
   exact eF []
  ·refine ww ?_
   obtain ⟨o16, ho, h⟩ := bi h
   refine cutS (fun s => ∃ po16, o16 = Sum.inr po16 ∧ s = ⟨[(1, .one (.c (dI x1))), (2, .one (.c (.pt 0 0)))], [some (.box [dI x0.Kind, dI x0.N, dS x0.S, dM (x0.List_.map eTValue), dM (x0.Fields.map eTField)])]⟩) ?_ ?_
   ·have h0o16 := h
    have h := ho
    clear ho
    obtain ⟨_, hk, h⟩ := bi h
    have hk := ck_some hk
    refine ww ?_
    refine bL (fun j s => ∃ (o16_0 : Nat), (o16_0 ≤ x0.List_.length ∧ j = x0.List_.length - o16_0) ∧ s = ⟨[(1, .one (.c (dI x1))), (2, .one (.c (.pt 0 0))), (51, .one (.c (dM (x0.List_.map eTValue)))), (52, .one (.c (dI ((x0.List_.length : Int))))), (53, .one (.c (dI ((o16_0 : Int)))))], [some (.box [dI x0.Kind, dI x0.N, dS x0.S, dM (x0.List_.map eTValue), dM (x0.Fields.map eTField)])]⟩ ∧ F87_l16 rc28 x1 (x0.List_.drop o16_0) o16_0 = some o16) (x0.List_.length - 0) [some 0] ⟨0, ⟨hk.1, rfl⟩, rfl, h⟩ ?_
    rintro _ _ ⟨o16_0, ⟨hi, rfl⟩, rfl, h⟩
    refine ww ?_
    refine condS (fun c17 => ?_) (fun c17 => ?_)
    ·obtain ⟨xo16, hxo16, hd⟩ := countY (show (o16_0 : Int) < (x0.List_.length : Int) from c17)
     rw [hd, F87_l16] at h
     refine ww ?_
     refine t_idxF (enc := eTValue) (xs := x0.List_) rfl rfl hxo16 (by rw [eTValue_u]; rfl) ?_
     refine ww ?_
     obtain ⟨t18, ht18, h⟩ := bi h
     refine cN [] (ih28 ht18) trivial ?_
     refine ww ?_
     refine condBh h (fun c19 h => ?_) (fun c19 h => ?_)
     ·refine ww ?_
      obtain ⟨fh0o16, hfh0o16, rfl⟩ := Option.map_eq_some_iff.1 h
      have h := hfh0o16.trans h0o16
      cases h
      exact eF []
     ·refine ww ?_
      rw [wrapN (by omega)]
      exact eL' (x0.List_.length - (o16_0 + 1)) [some 0] ⟨o16_0 + 1, ⟨by omega, rfl⟩, rfl, h⟩ (by omega)
    ·rw [countN (show ¬ ((o16_0 : Int) < (x0.List_.length : Int)) from c17), F87_l16] at h
     refine ww ?_
     cases h
     exact eM [some 0] ⟨_, rfl, rfl⟩
   ·rintro _ ⟨po16, rfl, rfl⟩
    clear ho
    dsimp only at h
    refine ww ?_
    obtain ⟨o21, ho, h⟩ := bi h
    refine cutS (fun s => ∃ po21, o21 = Sum.inr po21 ∧ s = ⟨[], []⟩) ?_ ?_
    ·have h0o21 := h
     have h := ho
     clear ho
     obtain ⟨_, hk, h⟩ := bi h
     have hk := ck_some hk
     refine ww ?_
     refine bL (fun j s => ∃ (o21_0 : Nat), (o21_0 ≤ x0.Fields.length ∧ j = x0.Fields.length - o21_0) ∧ s = ⟨[(1, .one (.c (dI x1))), (2, .one (.c (.pt 0 0))), (64, .one (.c (dM (x0.Fields.map eTField)))), (65, .one (.c (dI ((x0.Fields.length : Int))))), (66, .one (.c (dI ((o21_0 : Int)))))], [some (.box [dI x0.Kind, dI x0.N, dS x0.S, dM (x0.List_.map eTValue), dM (x0.Fields.map eTField)])]⟩ ∧ F87_l21 rc28 x0 x1 (x0.Fields.drop o21_0) o21_0 = some o21) (x0.Fields.length - 0) [some 0] ⟨0, ⟨hk.1, rfl⟩, rfl, h⟩ ?_
     rintro _ _ ⟨o21_0, ⟨hi, rfl⟩, rfl, h⟩
     refine ww ?_
     refine condS (fun c22 => ?_) (fun c22 => ?_)
     ·obtain ⟨xo21, hxo21, hd⟩ := countY (show (o21_0 : Int) < (x0.Fields.length : Int) from c22)
      rw [hd, F87_l21] at h
      refine ww ?_
      refine t_idxF (enc := eTField) (xs := x0.Fields) rfl rfl hxo21 (by rw [eTField_u]; rfl) ?_
      refine ww ?_
      obtain ⟨o23, ho, h⟩ := bi h
      refine cutS (fun s => s = ⟨[(1, .one (.c (dI x1))), (2, .one (.c (.pt 0 0))), (64, .one (.c (dM (x0.Fields.map eTField)))), (65, .one (.c (dI ((x0.Fields.length : Int))))), (66, .one (.c (dI ((o21_0 : Int))))), (98, .one (.c (dB o23)))], [some (.box [dI x0.Kind, dI x0.N, dS x0.S, dM (x0.List_.map eTValue), dM (x0.Fields.map eTField)])]⟩) ?_ ?_
      ·have h := ho
       clear ho
       refine ww ?_
       obtain ⟨t24, ht24, h⟩ := bi h
       refine cN [] (F105_ok ht24) trivial ?_
       refine ww ?_
       refine guardDBh h (fun g25 h => ?_) (fun g25 h => ?_)
       ·refine ww ?_
        cases h
        exact eM [some 0] rfl
       ·refine ww ?_
        refine guardDh h (fun g26 h => ?_) (fun g26 h => ?_)
        ·refine ww ?_
         obtain ⟨y27, hy27, h⟩ := bi h
         refine t_idxF (enc := eTField) (xs := x0.Fields) rfl rfl hy27 (by rw [eTField_u]; rfl) ?_
         refine ww ?_
         refine guardDBh h (fun g28 h => ?_) (fun g28 h => ?_)
         ·refine ww ?_
          cases h
          exact eM [some 0] rfl
         ·refine ww ?_
          obtain ⟨t29, ht29, h⟩ := bi h
          refine cN [] (ih28 ht29) trivial ?_
          refine ww ?_
          cases h
          exact eM [some 0] rfl
        ·refine ww ?_
         obtain ⟨t30, ht30, h⟩ := bi h
         refine cN [] (ih28 ht30) trivial ?_
         refine ww ?_
         cases h
         exact eM [some 0] rfl
      ·rintro _ rfl
       clear ho
       refine ww ?_
       refine condBh h (fun c31 h => ?_) (fun c31 h => ?_)
       ·refine ww ?_
        obtain ⟨fh0o21, hfh0o21, rfl⟩ := Option.map_eq_some_iff.1 h
        have h := hfh0o21.trans h0o21
        cases h
        exact eF []
       ·refine ww ?_
        rw [wrapN (by omega)]
        exact eL' (x0.Fields.length - (o21_0 + 1)) [some 0] ⟨o21_0 + 1, ⟨by omega, rfl⟩, rfl, h⟩ (by omega)
     ·rw [countN (show ¬ ((o21_0 : Int) < (x0.Fields.length : Int)) from c22), F87_l21] at h
      refine ww ?_
      cases h
      exact eM [] ⟨_, rfl, rfl⟩
    ·rintro _ ⟨po21, rfl, rfl⟩
     clear ho
     dsimp only at h
     refine ww ?_
     cases h
     exact eF []
def F87k : Nat → TValue → Int → Option (Bool)
  | 0 => fun _ _ => none
  | k + 1 => F87 (F87k k)
theorem F87k_ok (k : Nat) {x0 : TValue} {x1 : Int} {r : Bool} (h : F87k k x0 x1 = some r) : CallD Try.prog 87 [.agg [dI x0.Kind, dI x0.N, dS x0.S, dM (x0.List_.map eTValue), dM (x0.Fields.map eTField)], .c (dI x1)] [] (tupV [.c (dB r)]) [] := by
  induction k generalizing x0 x1 r with
  | zero => cases (show (none : Option (Bool)) = some _ from h)
  | succ k ih => exact F87_ok (fun h => ih h) h

/- orchestrator/value.Size -/
def F88_l1 (rc29 : TValue → Option (Int)) : List TValue → Nat → Int → Option (Int)
  | [], o1_1, o1_0 => some o1_0
  | xo1 :: xs, o1_1, o1_0 => (rc29 xo1).bind fun t3 => F88_l1 rc29 xs (o1_1 + 1) ((IntKind.i64.wrap (o1_0 + t3)))
def F88_l5 (rc29 : TValue → Option (Int)) : List TField → Nat → Int → Option (Int)
  | [], o5_1, o5_0 => some o5_0
  | xo5 :: xs, o5_1, o5_0 => (rc29 xo5.V).bind fun t7 => F88_l5 rc29 xs (o5_1 + 1) ((IntKind.i64.wrap (o5_0 + t7)))
def F88 (rc29 : TValue → Option (Int)) (x0 : TValue) : Option (Int) := (((ck (0 ≤ x0.List_.length ∧ x0.List_.length ≤ 4294967290)).bind fun u4 => F88_l1 rc29 x0.List_ 0 1).bind fun o1 => (((ck (0 ≤ x0.Fields.length ∧ x0.Fields.length ≤ 4294967290)).bind fun u8 => F88_l5 rc29 x0.Fields 0 o1).bind fun o5 => some o5))
def a88 : AFn := ⟨34, [(.tmp 2)],
 (.seq (.reg [sq 1 (.box (.t 0)),
sq 2 (.mv (kI 0))])
 (.seq (.reg [sq 3 (.mv (kI 1))])
 (.seq (.seq (.reg [sq 8 (.fieldA 3 (.t 1)),
sq 9 (.load none (.t 8)),
sq 10 (.len (.t 9)),
sq 11 (.mv (kI 0))])
 (.sem (.block 0 (.loop (.seq (.reg [sq 12 (.bin .lss (.t 11) (.t 10))])
 (.seq (.cond (.t 12)
 .skip
 (.exit 0))
 (.seq (.block 1 (.seq (.reg [sq 13 (.indexA 5 (.t 9) (.t 11)),
sq 14 (.load (some 5) (.t 13)),
sq 5 (.zbox [dI 0, dI 0, dS ⟨#[]⟩, dN, dN]),
su (.store 5 (.t 5) (.t 14))])
 (.reg [sq 15 (.mv (.t 3)),
sq 16 (.load (some 5) (.t 5)),
sq 17 (.call 88 [(.t 16)]),
sq 18 (.bin .add (.t 15) (.t 17)),
sq 3 (.mv (.t 18))])))
 (.reg [sq 19 (.bin .add (.t 11) (kI 1)),
sq 11 (.mv (.t 19))]))))))))
 (.seq (.seq (.reg [sq 20 (.fieldA 4 (.t 1)),
sq 21 (.load none (.t 20)),
sq 22 (.len (.t 21)),
sq 23 (.mv (kI 0))])
 (.sem (.block 2 (.loop (.seq (.reg [sq 24 (.bin .lss (.t 23) (.t 22))])
 (.seq (.cond (.t 24)
 .skip
 (.exit 2))
 (.seq (.block 3 (.seq (.reg [sq 25 (.indexA 6 (.t 21) (.t 23)),
sq 26 (.load (some 6) (.t 25)),
sq 7 (.zbox [dS ⟨#[]⟩, dI 0, dI 0, dS ⟨#[]⟩, dN, dN]),
su (.store 6 (.t 7) (.t 26))])
 (.reg [sq 27 (.mv (.t 3)),
sq 28 (.fieldA 1 (.t 7)),
sq 29 (.load (some 5) (.t 28)),
sq 30 (.call 88 [(.t 29)]),
sq 31 (.bin .add (.t 27) (.t 30)),
sq 3 (.mv (.t 31))])))
 (.reg [sq 32 (.bin .add (.t 23) (kI 1)),
sq 23 (.mv (.t 32))]))))))))
 (.seq (.reg [sq 33 (.mv (.t 3)),
sq 2 (.mv (.t 33))])
 .ret)))))⟩
theorem a88_ok : afn Try.prog 88 = some a88.er := by kernel_rfl
theorem F88_ok {rc29 : TValue → Option (Int)} (ih29 : ∀ {x0 : TValue} {r : Int} (h : rc29 x0 = some r), CallD Try.prog 88 [.agg [dI x0.Kind, dI x0.N, dS x0.S, dM (x0.List_.map eTValue), dM (x0.Fields.map eTField)]] [] (tupV [.c (dI r)]) [])  {x0 : TValue} {r : Int} (h : F88 rc29 x0 = some r) : CallD Try.prog 88 [.agg [dI x0.Kind, dI x0.N, dS x0.S, dM (x0.List_.map eTValue), dM (x0.Fields.map eTField)]] [] (tupV [.c (dI r)]) [] := by
 refine callS a88_ok (by simp [a88]) ?_
 rw [F88] at h
 simp only [a88, VW.down, Nat.reduceEqDiff, reduceCtorEq, Nat.reduceAdd, Nat.reduceLeDiff, Nat.reduceLT, Nat.reduceBEq, Nat.reduceSub, EE.down]
 obtain ⟨o1, ho, h⟩ := bi h
 refine cutS (fun s => s = ⟨[(1, .one (.c (.pt 0 0))), (3, .one (.c (dI o1)))], [some (.box [dI x0.Kind, dI x0.N, dS x0.S, dM (x0.List_.map eTValue), dM (x0.Fields.map eTField)])]⟩) ?_ ?_
 ·have h := ho
  clear ho
  obtain ⟨_, hk, h⟩ := bi h
  have hk := ck_some hk
  refine ww ?_
  refine bL (fun j s => ∃ (o1_1 : Nat) (o1_0 : Int), (o1_1 ≤ x0.List_.length ∧ j = x0.List_.length - o1_1) ∧ s = ⟨[(1, .one (.c (.pt 0 0))), (3, .one (.c (dI o1_0))), (9, .one (.c (dM (x0.List_.map eTValue)))), (10, .one (.c (dI ((x0.List_.length : Int))))), (11, .one (.c (dI ((o1_1 : Int)))))], [some (.box [dI x0.Kind, dI x0.N, dS x0.S, dM (x0.List_.map eTValue), dM (x0.Fields.map eTField)])]⟩ ∧ F88_l1 rc29 (x0.List_.drop o1_1) o1_1 o1_0 = some o1) (x0.List_.length - 0) [some 0] ⟨0, 1, ⟨hk.1, rfl⟩, rfl, h⟩ ?_
  rintro _ _ ⟨o1_1, o1_0, ⟨hi, rfl⟩, rfl, h⟩
  refine ww ?_
  refine condS (fun c2 => ?_) (fun c2 => ?_)
  ·obtain ⟨xo1, hxo1, hd⟩ := countY (show (o1_1 : Int) < (x0.List_.length : Int) from c2)
   rw [hd, F88_l1] at h
   refine ww ?_
   refine t_idxF (enc := eTValue) (xs := x0.List_) rfl rfl hxo1 (by rw [eTValue_u]; rfl) ?_
   refine ww ?_
   obtain ⟨t3, ht3, h⟩ := bi h
   refine cN [] (ih29 ht3) trivial ?_
   refine ww ?_
   rw [wrapN (by omega)]
   exact eL' (x0.List_.length - (o1_1 + 1)) [some 0] ⟨o1_1 + 1, (IntKind.i64.wrap (o1_0 + t3)), ⟨by omega, rfl⟩, rfl, h⟩ (by omega)
  ·rw [countN (show ¬ ((o1_1 : Int) < (x0.List_.length : Int)) from c2), F88_l1] at h
   refine ww ?_
   cases h
   exact eM [some 0] rfl
 ·rintro _ rfl
  clear ho
  refine ww ?_
  obtain ⟨o5, ho, h⟩ := bi h
  refine cutS (fun s => s = ⟨[(3, .one (.c (dI o5)))], []⟩) ?_ ?_
  ·have h := ho
   clear ho
   obtain ⟨_, hk, h⟩ := bi h
   have hk := ck_some hk
   refine ww ?_
   refine bL (fun j s => ∃ (o5_1 : Nat) (o5_0 : Int), (o5_1 ≤ x0.Fields.length ∧ j = x0.Fields.length - o5_1) ∧ s = ⟨[(3, .one (.c (dI o5_0))), (21, .one (.c (dM (x0.Fields.map eTField)))), (22, .one (.c (dI ((x0.Fields.length : Int))))), (23, .one (.c (dI ((o5_1 : Int)))))], []⟩ ∧ F88_l5 rc29 (x0.Fields.drop o5_1) o5_1 o5_0 = some o5) (x0.Fields.length - 0) [] ⟨0, o1, ⟨hk.1, rfl⟩, rfl, h⟩ ?_
   rintro _ _ ⟨o5_1, o5_0, ⟨hi, rfl⟩, rfl, h⟩
   refine ww ?_
   refine condS (fun c6 => ?_) (fun c6 => ?_)
   ·obtain ⟨xo5, hxo5, hd⟩ := countY (show (o5_1 : Int) < (x0.Fields.length : Int) from c6)
    rw [hd, F88_l5] at h
    refine ww ?_
    refine t_idxF (enc := eTField) (xs := x0.Fields) rfl rfl hxo5 (by rw [eTField_u]; rfl) ?_
    refine ww ?_
    obtain ⟨t7, ht7, h⟩ := bi h
    refine cN [] (ih29 ht7) trivial ?_
    refine ww ?_
    rw [wrapN (by omega)]
    exact eL' (x0.Fields.length - (o5_1 + 1)) [] ⟨o5_1 + 1, (IntKind.i64.wrap (o5_0 + t7)), ⟨by omega, rfl⟩, rfl, h⟩ (by omega)
   ·rw [countN (show ¬ ((o5_1 : Int) < (x0.Fields.length : Int)) from c6), F88_l5] at h
    refine ww ?_
    cases h
    exact eM [] rfl
  ·rintro _ rfl
   clear ho
   refine ww ?_
   cases h
   exact eF []
def F88k : Nat → TValue → Option (Int)
  | 0 => fun _ => none
  | k + 1 => F88 (F88k k)
theorem F88k_ok (k : Nat) {x0 : TValue} {r : Int} (h : F88k k x0 = some r) : CallD Try.prog 88 [.agg [dI x0.Kind, dI x0.N, dS x0.S, dM (x0.List_.map eTValue), dM (x0.Fields.map eTField)]] [] (tupV [.c (dI r)]) [] := by
  induction k generalizing x0 r with
  | zero => cases (show (none : Option (Int)) = some _ from h)
  | succ k ih => exact F88_ok (fun h => ih h) h

/- orchestrator/value.Valid -/
def F59 (x0 : TValue) : Option (Bool) := (((F87k 1099511627776 x0 12).bind fun t2 => (if t2 = true then (F88k 1099511627776 x0).bind fun t4 => some (decide (t4 ≤ 600)) else some false)).bind fun o1 => some o1)
def a59 : AFn := ⟨10, [(.tmp 2)],
 (.seq (.reg [sq 1 (.box (.t 0)),
sq 2 (.mv (kB false))])
 (.seq (.sem (.reg [sq 3 (.load (some 5) (.t 1)),
sq 4 (.call 87 [(.t 3), (kI 12)]),
sq 5 (.mv (.t 4)),
⟨(some 6), (some (5, true)), .load (some 5) (.t 1), [], (.new [])⟩,
⟨(some 7), (some (5, true)), .call 88 [(.t 6)], [], (.new [])⟩,
⟨(some 8), (some (5, true)), .bin .leq (.t 7) (kI 600), [], (.new [])⟩,
sq 9 (.pick (.t 5) (.t 8) (kB false)),
sq 2 (.mv (.t 9))]))
 .ret))⟩
theorem a59_ok : afn Try.prog 59 = some a59.er := by kernel_rfl
theorem F59_ok {x0 : TValue} {r : Bool} (h : F59 x0 = some r) : CallD Try.prog 59 [.agg [dI x0.Kind, dI x0.N, dS x0.S, dM (x0.List_.map eTValue), dM (x0.Fields.map eTField)]] [] (tupV [.c (dB r)]) [] := by
 refine callS a59_ok (by simp [a59]) ?_
 rw [F59] at h
 simp only [a59, VW.down, Nat.reduceEqDiff, reduceCtorEq, Nat.reduceAdd, Nat.reduceLeDiff, Nat.reduceLT, Nat.reduceBEq, Nat.reduceSub, EE.down]
 obtain ⟨o1, ho, h⟩ := bi h
 refine cutS (fun s => s = ⟨[(2, .one (.c (dB o1)))], []⟩) ?_ ?_
 ·have h := ho
  clear ho
  refine ww ?_
  obtain ⟨t2, ht2, h⟩ := bi h
  refine cN [] (F87k_ok 1099511627776 ht2) trivial ?_
  refine ww ?_
  refine guardSBh h (fun g3 h => ?_) (fun g3 h => ?_)
  ·refine ww ?_
   obtain ⟨t4, ht4, h⟩ := bi h
   refine cN [] (F88k_ok 1099511627776 ht4) trivial ?_
   refine ww ?_
   cases h
   exact eM [] rfl
  ·refine ww ?_
   cases h
   exact eM [] rfl
 ·rintro _ rfl
  clear ho
  refine ww ?_
  cases h
  exact eF []

/- orchestrator/store.validObject -/
def F31 (x0 : Object) : Option (Bool) := (((F58 x0.Meta).bind fun t2 => (if t2 = true then (F59 x0.Spec).bind fun t4 => (if t4 = true then (F59 x0.Status).bind fun t6 => some t6 else some false) else some false)).bind fun o1 => some o1)
def a31 : AFn := ⟨16, [(.tmp 2)],
 (.seq (.reg [sq 1 (.box (.t 0)),
sq 2 (.mv (kB false))])
 (.seq (.sem (.reg [sq 3 (.fieldA 0 (.t 1)),
sq 4 (.load (some 13) (.t 3)),
sq 5 (.call 58 [(.t 4)]),
sq 6 (.mv (.t 5)),
⟨(some 7), (some (6, true)), .fieldA 13 (.t 1), [], (.new [])⟩,
⟨(some 8), (some (6, true)), .load (some 5) (.t 7), [], (.new [])⟩,
⟨(some 9), (some (6, true)), .call 59 [(.t 8)], [], (.new [])⟩,
sq 10 (.pick (.t 6) (.t 9) (kB false)),
sq 11 (.mv (.t 10)),
⟨(some 12), (some (11, true)), .fieldA 18 (.t 1), [], (.new [])⟩,
⟨(some 13), (some (11, true)), .load (some 5) (.t 12), [], (.new [])⟩,
⟨(some 14), (some (11, true)), .call 59 [(.t 13)], [], (.new [])⟩,
sq 15 (.pick (.t 11) (.t 14) (kB false)),
sq 2 (.mv (.t 15))]))
 .ret))⟩
theorem a31_ok : afn Try.prog 31 = some a31.er := by kernel_rfl
theorem F31_ok {x0 : Object} {r : Bool} (h : F31 x0 = some r) : CallD Try.prog 31 [.agg [dS x0.Meta.Kind, dS x0.Meta.Namespace, dS x0.Meta.Name, dI x0.Meta.Uid, dI x0.Meta.Version, dI x0.Meta.Generation, dI x0.Meta.Created, dB x0.Meta.Deleting, dI x0.Meta.DeleteAt, dM (x0.Meta.Labels.map eLabel), dM (x0.Meta.Owners.map eOwner), dM (x0.Meta.Finalizers.map eS), dM (x0.Meta.Managers.map eManager), dI x0.Spec.Kind, dI x0.Spec.N, dS x0.Spec.S, dM (x0.Spec.List_.map eTValue), dM (x0.Spec.Fields.map eTField), dI x0.Status.Kind, dI x0.Status.N, dS x0.Status.S, dM (x0.Status.List_.map eTValue), dM (x0.Status.Fields.map eTField)]] [] (tupV [.c (dB r)]) [] := by
 refine callS a31_ok (by simp [a31]) ?_
 rw [F31] at h
 simp only [a31, VW.down, Nat.reduceEqDiff, reduceCtorEq, Nat.reduceAdd, Nat.reduceLeDiff, Nat.reduceLT, Nat.reduceBEq, Nat.reduceSub, EE.down]
 obtain ⟨o1, ho, h⟩ := bi h
 refine cutS (fun s => s = ⟨[(2, .one (.c (dB o1)))], []⟩) ?_ ?_
 ·have h := ho
  clear ho
  refine ww ?_
  obtain ⟨t2, ht2, h⟩ := bi h
  refine cN [] (F58_ok ht2) trivial ?_
  refine ww ?_
  refine guardSBh h (fun g3 h => ?_) (fun g3 h => ?_)
  ·refine ww ?_
   obtain ⟨t4, ht4, h⟩ := bi h
   refine cN [] (F59_ok ht4) trivial ?_
   refine ww ?_
   refine guardSBh h (fun g5 h => ?_) (fun g5 h => ?_)
   ·refine ww ?_
    obtain ⟨t6, ht6, h⟩ := bi h
    refine cN [] (F59_ok ht6) trivial ?_
    refine ww ?_
    cases h
    exact eM [] rfl
   ·refine ww ?_
    cases h
    exact eM [] rfl
  ·refine ww ?_
   cases h
   exact eM [] rfl
 ·rintro _ rfl
  clear ho
  refine ww ?_
  cases h
  exact eF []

/- slices.Clone[[]orchestrator/api.Label,orchestrator/api.Label] -/
theorem a62_ok : afn Try.prog 62 = some (cloneA 2 32) := by kernel_rfl
theorem F62_ok {x0 r : List Label} (h : cloneI x0 = some r) : CallD Try.prog 62 [.c (dM (x0.map eLabel))] [] (tupV [.c (.own 0 1 0 r.length none)]) [some (.arr 1 2 (r.map eLabel))] := L_clone a62_ok (fun _ => rfl) h

/- slices.Clone[[]orchestrator/api.Owner,orchestrator/api.Owner] -/
theorem a63_ok : afn Try.prog 63 = some (cloneA 5 48) := by kernel_rfl
theorem F63_ok {x0 r : List Owner} (h : cloneI x0 = some r) : CallD Try.prog 63 [.c (dM (x0.map eOwner))] [] (tupV [.c (.own 0 1 0 r.length none)]) [some (.arr 1 5 (r.map eOwner))] := L_clone a63_ok (fun _ => rfl) h

/- slices.Clone[[]string,string] -/
theorem a64_ok : afn Try.prog 64 = some (cloneA 1 16) := by kernel_rfl
theorem F64_ok {x0 r : List ByteArray} (h : cloneI x0 = some r) : CallD Try.prog 64 [.c (dM (x0.map eS))] [] (tupV [.c (.own 0 1 0 r.length none)]) [some (.arr 1 1 (r.map eS))] := L_clone a64_ok (fun _ => rfl) h

/- slices.Clone[[]orchestrator/api.Manager,orchestrator/api.Manager] -/
theorem a65_ok : afn Try.prog 65 = some (cloneA 2 40) := by kernel_rfl
theorem F65_ok {x0 r : List Manager} (h : cloneI x0 = some r) : CallD Try.prog 65 [.c (dM (x0.map eManager))] [] (tupV [.c (.own 0 1 0 r.length none)]) [some (.arr 1 2 (r.map eManager))] := L_clone a65_ok (fun _ => rfl) h

/- slices.Clone[[]orchestrator/api.Value,orchestrator/api.Value] -/
theorem a112_ok : afn Try.prog 112 = some (cloneA 5 80) := by kernel_rfl
theorem F112_ok {x0 r : List TValue} (h : cloneI x0 = some r) : CallD Try.prog 112 [.c (dM (x0.map eTValue))] [] (tupV [.c (.own 0 1 0 r.length none)]) [some (.arr 1 5 (r.map eTValue))] := L_clone a112_ok (fun _ => by rw [eTValue_u]; rfl) h

/- slices.Clone[[]orchestrator/api.Field,orchestrator/api.Field] -/
theorem a113_ok : afn Try.prog 113 = some (cloneA 6 96) := by kernel_rfl
theorem F113_ok {x0 r : List TField} (h : cloneI x0 = some r) : CallD Try.prog 113 [.c (dM (x0.map eTField))] [] (tupV [.c (.own 0 1 0 r.length none)]) [some (.arr 1 6 (r.map eTField))] := L_clone a113_ok (fun _ => by rw [eTField_u]; rfl) h

/- orchestrator/value.clone -/
def F106_l2 (rc33 : TValue → Option ((List TValue) × (List TField))) : List TValue → Nat → (List TValue) → Option ((List TValue))
  | [], o2_1, o2_0 => some o2_0
  | xo2 :: xs, o2_1, o2_0 => (rdI o2_0 ((o2_1 : Int))).bind fun y4 => (rc33 y4).bind fun t5 => (rdI o2_0 ((o2_1 : Int))).bind fun y6 => F106_l2 rc33 xs (o2_1 + 1) ((o2_0.set ((o2_1 : Int)).toNat ((⟨y4.Kind, y4.N, y4.S, t5.1, t5.2⟩ : TValue))))
def F106_l9 (rc33 : TValue → Option ((List TValue) × (List TField))) : List TField → Nat → (List TField) → Option ((List TField))
  | [], o9_1, o9_0 => some o9_0
  | xo9 :: xs, o9_1, o9_0 => (rdI o9_0 ((o9_1 : Int))).bind fun y11 => (rc33 y11.V).bind fun t12 => (rdI o9_0 ((o9_1 : Int))).bind fun y13 => F106_l9 rc33 xs (o9_1 + 1) ((o9_0.set ((o9_1 : Int)).toNat ((⟨y13.Name, (⟨y11.V.Kind, y11.V.N, y11.V.S, t12.1, t12.2⟩ : TValue)⟩ : TField))))
def F106 (rc33 : TValue → Option ((List TValue) × (List TField))) (x0 : TValue) : Option ((List TValue) × (List TField)) := (cloneI x0.List_).bind fun t1 => (((ck (0 ≤ t1.length ∧ t1.length ≤ 4294967290)).bind fun u7 => F106_l2 rc33 t1 0 t1).bind fun o2 => (cloneI x0.Fields).bind fun t8 => (((ck (0 ≤ t8.length ∧ t8.length ≤ 4294967290)).bind fun u14 => F106_l9 rc33 t8 0 t8).bind fun o9 => some ((o2, o9))))
def a106 : AFn := ⟨48, [(.cell 2 (some 5))],
 (.seq (.reg [sq 1 (.box (.t 0)),
sq 2 (.zbox [dI 0, dI 0, dS ⟨#[]⟩, dN, dN])])
 (.seq (.reg [sq 7 (.fieldA 3 (.t 1)),
sq 8 (.load none (.t 7)),
sq 9 (.call 112 [(.t 8)]),
sq 10 (.fieldA 3 (.t 1)),
su (.store 1 (.t 10) (.t 9))])
 (.seq (.seq (.reg [sq 11 (.fieldA 3 (.t 1)),
sq 12 (.load none (.t 11)),
sq 13 (.len (.t 12)),
sq 14 (.mv (kI 0))])
 (.sem (.block 0 (.loop (.seq (.reg [sq 15 (.bin .lss (.t 14) (.t 13))])
 (.seq (.cond (.t 15)
 .skip
 (.exit 0))
 (.seq (.block 1 (.seq (.reg [sq 16 (.mv (.t 14)),
sq 17 (.indexA 5 (.t 12) (.t 14)),
sq 18 (.load (some 5) (.t 17)),
sq 4 (.zbox [dI 0, dI 0, dS ⟨#[]⟩, dN, dN]),
sq 3 (.mv (.t 16)),
su (.store 5 (.t 4) (.t 18))])
 (.regd [sq 19 (.fieldA 3 (.t 1)),
sd 20 (.load none (.t 19)) [0],
sq 21 (.mv (.t 3)),
sq 22 (.load (some 5) (.t 4)),
⟨(some 23), none, .call 106 [(.t 22)], [3], (.lone [1, 19])⟩,
sd 24 (.indexA 5 (.t 20) (.t 21)) [0, 1, 2, 3, 4],
⟨none, none, .store 5 (.t 24) (.t 23), [0, 1, 2, 3, 4, 5], (.lone [])⟩])))
 (.reg [sq 25 (.bin .add (.t 14) (kI 1)),
sq 14 (.mv (.t 25))]))))))))
 (.seq (.reg [sq 26 (.fieldA 4 (.t 1)),
sq 27 (.load none (.t 26)),
sq 28 (.call 113 [(.t 27)]),
sq 29 (.fieldA 4 (.t 1)),
su (.store 1 (.t 29) (.t 28))])
 (.seq (.seq (.reg [sq 30 (.fieldA 4 (.t 1)),
sq 31 (.load none (.t 30)),
sq 32 (.len (.t 31)),
sq 33 (.mv (kI 0))])
 (.sem (.block 2 (.loop (.seq (.reg [sq 34 (.bin .lss (.t 33) (.t 32))])
 (.seq (.cond (.t 34)
 .skip
 (.exit 2))
 (.seq (.block 3 (.seq (.reg [sq 35 (.mv (.t 33)),
sq 36 (.indexA 6 (.t 31) (.t 33)),
sq 37 (.load (some 6) (.t 36)),
sq 6 (.zbox [dS ⟨#[]⟩, dI 0, dI 0, dS ⟨#[]⟩, dN, dN]),
sq 5 (.mv (.t 35)),
su (.store 6 (.t 6) (.t 37))])
 (.regd [sq 38 (.fieldA 4 (.t 1)),
sd 39 (.load none (.t 38)) [0],
sq 40 (.mv (.t 5)),
sq 41 (.fieldA 1 (.t 6)),
sd 42 (.load (some 5) (.t 41)) [3],
⟨(some 43), none, .call 106 [(.t 42)], [3, 4], (.lone [1, 38])⟩,
sd 44 (.indexA 6 (.t 39) (.t 40)) [0, 1, 2, 3, 4, 5],
sd 45 (.fieldA 1 (.t 44)) [0, 1, 2, 3, 4, 5, 6],
⟨none, none, .store 5 (.t 45) (.t 43), [0, 1, 2, 3, 4, 5, 6, 7], (.lone [])⟩])))
 (.reg [sq 46 (.bin .add (.t 33) (kI 1)),
sq 33 (.mv (.t 46))]))))))))
 (.seq (.reg [sq 47 (.load (some 5) (.t 1)),
⟨none, none, .store 5 (.t 2) (.t 47), [], (.lone [1])⟩])
 .ret))))))⟩
theorem a106_ok : afn Try.prog 106 = some a106.er := by kernel_rfl
theorem F106_ok {rc33 : TValue → Option ((List TValue) × (List TField))} (ih33 : ∀ {x0 : TValue} {r : (List TValue) × (List TField)} (h : rc33 x0 = some r), CallD Try.prog 106 [.agg [dI x0.Kind, dI x0.N, dS x0.S, dM (x0.List_.map eTValue), dM (x0.Fields.map eTField)]] [] (tupV [.agg [dI x0.Kind, dI x0.N, dS x0.S, .own 0 0 0 (r.1.length) none, .own 1 0 0 (r.2.length) none]]) [some (.arr 0 5 (r.1.map eTValue)), some (.arr 0 6 (r.2.map eTField))])  {x0 : TValue} {r : (List TValue) × (List TField)} (h : F106 rc33 x0 = some r) : CallD Try.prog 106 [.agg [dI x0.Kind, dI x0.N, dS x0.S, dM (x0.List_.map eTValue), dM (x0.Fields.map eTField)]] [] (tupV [.agg [dI x0.Kind, dI x0.N, dS x0.S, .own 0 0 0 (r.1.length) none, .own 1 0 0 (r.2.length) none]]) [some (.arr 0 5 (r.1.map eTValue)), some (.arr 0 6 (r.2.map eTField))] := by
 refine callS a106_ok (by simp [a106]) ?_
 rw [F106] at h
 simp only [a106, VW.down, Nat.reduceEqDiff, reduceCtorEq, Nat.reduceAdd, Nat.reduceLeDiff, Nat.reduceLT, Nat.reduceBEq, Nat.reduceSub, EE.down]
 obtain ⟨t1, ht1, h⟩ := bi h
 refine cN [] (F112_ok ht1) trivial ?_
 refine ww ?_
 obtain ⟨o2, ho, h⟩ := bi h
 refine cutS (fun s => s = ⟨[(1, .one (.c (.pt 0 0))), (2, .one (.c (.pt 2 0)))], [some (.box [dI x0.Kind, dI x0.N, dS x0.S, .own 1 0 0 (o2.length) none, dM (x0.Fields.map eTField)]), some (.arr 0 5 (o2.map eTValue)), some (.box [dI 0, dI 0, dS ((⟨#[]⟩ : ByteArray)), dN, dN])]⟩) ?_ ?_
 ·have h := ho
  clear ho
  obtain ⟨_, hk, h⟩ := bi h
  have hk := ck_some hk
  refine ww ?_
  refine bL (fun j s => ∃ (o2_1 : Nat) (o2_0 : List TValue), (o2_1 ≤ t1.length ∧ j = t1.length - o2_1) ∧ s = ⟨[(1, .one (.c (.pt 0 0))), (2, .one (.c (.pt 2 0))), (12, .one (.c (.own 1 0 0 (o2_0.length) none))), (13, .one (.c (dI ((t1.length : Int))))), (14, .one (.c (dI ((o2_1 : Int)))))], [some (.box [dI x0.Kind, dI x0.N, dS x0.S, .own 1 0 0 (o2_0.length) none, dM (x0.Fields.map eTField)]), some (.arr 0 5 (o2_0.map eTValue)), some (.box [dI 0, dI 0, dS ((⟨#[]⟩ : ByteArray)), dN, dN])]⟩ ∧ F106_l2 rc33 (t1.drop o2_1) o2_1 o2_0 = some o2) (t1.length - 0) [some 0, some 2, some 1] ⟨0, t1, ⟨hk.1, rfl⟩, rfl, h⟩ ?_
  rintro _ _ ⟨o2_1, o2_0, ⟨hi, rfl⟩, rfl, h⟩
  refine ww ?_
  refine condS (fun c3 => ?_) (fun c3 => ?_)
  ·obtain ⟨xo2, hxo2, hd⟩ := countY (show (o2_1 : Int) < (t1.length : Int) from c3)
   rw [hd, F106_l2] at h
   refine ww ?_
   obtain ⟨y4, hy4, h⟩ := bi h
   refine t_idxO (enc := eTValue) (xs := o2_0) rfl rfl rfl (by first | rfl | simp only [List.length_set] | exact (clrL_len (slI_len (by assumption))).symm) hy4 ?_
   refine ww ?_
   refine LdRow.rd (rdI_some hy4).2.1 ?_
   refine ww ?_
   obtain ⟨t5, ht5, h⟩ := bi h
   refine cN [] (ih33 ht5) trivial ?_
   refine ww ?_
   obtain ⟨y6, hy6, h⟩ := bi h
   refine t_idxO (enc := eTValue) (xs := o2_0) rfl rfl rfl (by first | rfl | simp only [List.length_set] | exact (clrL_len (slI_len (by assumption))).symm) hy6 ?_
   refine ww ?_
   refine StRow.rd (y' := (⟨y4.Kind, y4.N, y4.S, t5.1, t5.2⟩ : TValue)) (rdI_some hy6).2.1 (by simp [EE.down]) (by first | rfl | (simp only [bor_full']; rfl) | (simp only [eTValue_u, bor_full']; rfl)) ?_
   refine ww ?_
   rw [wrapN (by omega)]
   exact eL' (t1.length - (o2_1 + 1)) [some 0, some 1, some 2] ⟨o2_1 + 1, (o2_0.set ((o2_1 : Int)).toNat ((⟨y4.Kind, y4.N, y4.S, t5.1, t5.2⟩ : TValue))), ⟨by omega, rfl⟩, rfl, h⟩ (by omega)
  ·rw [countN (show ¬ ((o2_1 : Int) < (t1.length : Int)) from c3), F106_l2] at h
   refine ww ?_
   cases h
   exact eM [some 0, some 1, some 2] rfl
 ·rintro _ rfl
  clear ho
  refine ww ?_
  obtain ⟨t8, ht8, h⟩ := bi h
  refine cN [] (F113_ok ht8) trivial ?_
  refine ww ?_
  obtain ⟨o9, ho, h⟩ := bi h
  refine cutS (fun s => s = ⟨[(1, .one (.c (.pt 0 0))), (2, .one (.c (.pt 3 0)))], [some (.box [dI x0.Kind, dI x0.N, dS x0.S, .own 1 0 0 (o2.length) none, .own 2 0 0 (o9.length) none]), some (.arr 0 5 (o2.map eTValue)), some (.arr 0 6 (o9.map eTField)), some (.box [dI 0, dI 0, dS ((⟨#[]⟩ : ByteArray)), dN, dN])]⟩) ?_ ?_
  ·have h := ho
   clear ho
   obtain ⟨_, hk, h⟩ := bi h
   have hk := ck_some hk
   refine ww ?_
   refine bL (fun j s => ∃ (o9_1 : Nat) (o9_0 : List TField), (o9_1 ≤ t8.length ∧ j = t8.length - o9_1) ∧ s = ⟨[(1, .one (.c (.pt 0 0))), (2, .one (.c (.pt 3 0))), (31, .one (.c (.own 2 0 0 (o9_0.length) none))), (32, .one (.c (dI ((t8.length : Int))))), (33, .one (.c (dI ((o9_1 : Int)))))], [some (.box [dI x0.Kind, dI x0.N, dS x0.S, .own 1 0 0 (o2.length) none, .own 2 0 0 (o9_0.length) none]), some (.arr 0 5 (o2.map eTValue)), some (.arr 0 6 (o9_0.map eTField)), some (.box [dI 0, dI 0, dS ((⟨#[]⟩ : ByteArray)), dN, dN])]⟩ ∧ F106_l9 rc33 (t8.drop o9_1) o9_1 o9_0 = some o9) (t8.length - 0) [some 0, some 1, some 3, some 2] ⟨0, t8, ⟨hk.1, rfl⟩, rfl, h⟩ ?_
   rintro _ _ ⟨o9_1, o9_0, ⟨hi, rfl⟩, rfl, h⟩
   refine ww ?_
   refine condS (fun c10 => ?_) (fun c10 => ?_)
   ·obtain ⟨xo9, hxo9, hd⟩ := countY (show (o9_1 : Int) < (t8.length : Int) from c10)
    rw [hd, F106_l9] at h
    refine ww ?_
    obtain ⟨y11, hy11, h⟩ := bi h
    refine t_idxO (enc := eTField) (xs := o9_0) rfl rfl rfl (by first | rfl | simp only [List.length_set] | exact (clrL_len (slI_len (by assumption))).symm) hy11 ?_
    refine ww ?_
    refine LdRow.rd (rdI_some hy11).2.1 ?_
    refine ww ?_
    obtain ⟨t12, ht12, h⟩ := bi h
    refine cN [] (ih33 ht12) trivial ?_
    refine ww ?_
    obtain ⟨y13, hy13, h⟩ := bi h
    refine t_idxO (enc := eTField) (xs := o9_0) rfl rfl rfl (by first | rfl | simp only [List.length_set] | exact (clrL_len (slI_len (by assumption))).symm) hy13 ?_
    refine ww ?_
    refine StRow.rd (y' := (⟨y13.Name, (⟨y11.V.Kind, y11.V.N, y11.V.S, t12.1, t12.2⟩ : TValue)⟩ : TField)) (rdI_some hy13).2.1 (by simp [EE.down]) (by first | rfl | (simp only [bor_full']; rfl) | (simp only [eTField_u, bor_full']; rfl)) ?_
    refine ww ?_
    rw [wrapN (by omega)]
    exact eL' (t8.length - (o9_1 + 1)) [some 0, some 1, some 2, some 3] ⟨o9_1 + 1, (o9_0.set ((o9_1 : Int)).toNat ((⟨y13.Name, (⟨y11.V.Kind, y11.V.N, y11.V.S, t12.1, t12.2⟩ : TValue)⟩ : TField))), ⟨by omega, rfl⟩, rfl, h⟩ (by omega)
   ·rw [countN (show ¬ ((o9_1 : Int) < (t8.length : Int)) from c10), F106_l9] at h
    refine ww ?_
    cases h
    exact eM [some 0, some 1, some 2, some 3] rfl
  ·rintro _ rfl
   clear ho
   refine ww ?_
   cases h
   exact eF [some 1, some 2]
def F106k : Nat → TValue → Option ((List TValue) × (List TField))
  | 0 => fun _ => none
  | k + 1 => F106 (F106k k)
theorem F106k_ok (k : Nat) {x0 : TValue} {r : (List TValue) × (List TField)} (h : F106k k x0 = some r) : CallD Try.prog 106 [.agg [dI x0.Kind, dI x0.N, dS x0.S, dM (x0.List_.map eTValue), dM (x0.Fields.map eTField)]] [] (tupV [.agg [dI x0.Kind, dI x0.N, dS x0.S, .own 0 0 0 (r.1.length) none, .own 1 0 0 (r.2.length) none]]) [some (.arr 0 5 (r.1.map eTValue)), some (.arr 0 6 (r.2.map eTField))] := by
  induction k generalizing x0 r with
  | zero => cases (show (none : Option ((List TValue) × (List TField))) = some _ from h)
  | succ k ih => exact F106_ok (fun h => ih h) h

/- orchestrator/value.List -/
def F89 (x0 : (List TValue)) : Option ((List TValue) × (List TField)) := (F106k 1099511627776 ((⟨4, 0, (⟨#[]⟩ : ByteArray), x0, []⟩ : TValue))).bind fun t1 => some ((t1.1, t1.2))
def a89 : AFn := ⟨6, [(.cell 2 (some 5))],
 (.seq (.reg [⟨(some 2), none, .zbox [dI 0, dI 0, dS ⟨#[]⟩, dN, dN], [], (.lone [])⟩])
 (.seq (.reg [sq 3 (.mv (.t 0)),
sq 4 (.build [dI 0, dI 0, dS ⟨#[]⟩, dN, dN] [(0, 1, (kI 4)), (3, 1, (.t 3))]),
sq 5 (.call 106 [(.t 4)]),
su (.store 5 (.t 2) (.t 5))])
 .ret))⟩
theorem a89_ok : afn Try.prog 89 = some a89.er := by kernel_rfl
theorem F89_ok {x0 : (List TValue)} {r : (List TValue) × (List TField)} (h : F89 x0 = some r) : CallD Try.prog 89 [.c (dM (x0.map eTValue))] [] (tupV [.agg [dI ((4 : Int)), dI ((0 : Int)), dS (((⟨#[]⟩ : ByteArray))), .own 0 0 0 (r.1.length) none, .own 1 0 0 (r.2.length) none]]) [some (.arr 0 5 (r.1.map eTValue)), some (.arr 0 6 (r.2.map eTField))] := by
 refine callS a89_ok (by simp [a89]) ?_
 rw [F89] at h
 simp only [a89, VW.down, Nat.reduceEqDiff, reduceCtorEq, Nat.reduceAdd, Nat.reduceLeDiff, Nat.reduceLT, Nat.reduceBEq, Nat.reduceSub, EE.down]
 obtain ⟨t1, ht1, h⟩ := bi h
 refine cN [] (F106k_ok 1099511627776 ht1) trivial ?_
 refine ww ?_
 cases h
 exact eF [some 1, some 2]

/- orchestrator/store.cloneValue -/
def F66 (x0 : TValue) : Option (TValue) := (F89 ([x0])).bind fun t1 => (rdI t1.1 0).bind fun y2 => some y2
def a66 : AFn := ⟨9, [(.cell 2 (some 5))],
 (.seq (.reg [sq 1 (.box (.t 0)),
sq 2 (.zbox [dI 0, dI 0, dS ⟨#[]⟩, dN, dN])])
 (.seq (.reg [sq 3 (.load (some 5) (.t 1)),
sq 4 (.bslice 5 [(.t 3)]),
sq 5 (.call 89 [(.t 4)]),
sq 6 (.field 3 none (.t 5)),
sq 7 (.indexA 5 (.t 6) (kI 0)),
sq 8 (.load (some 5) (.t 7)),
su (.store 5 (.t 2) (.t 8))])
 .ret))⟩
theorem a66_ok : afn Try.prog 66 = some a66.er := by kernel_rfl
theorem F66_ok {x0 : TValue} {r : TValue} (h : F66 x0 = some r) : CallD Try.prog 66 [.agg [dI x0.Kind, dI x0.N, dS x0.S, dM (x0.List_.map eTValue), dM (x0.Fields.map eTField)]] [] (tupV [.agg [dI ((r).Kind), dI ((r).N), dS ((r).S), dM (((r).List_).map eTValue), dM (((r).Fields).map eTField)]]) [] := by
 refine callS a66_ok (by simp [a66]) ?_
 rw [F66] at h
 simp only [a66, VW.down, Nat.reduceEqDiff, reduceCtorEq, Nat.reduceAdd, Nat.reduceLeDiff, Nat.reduceLT, Nat.reduceBEq, Nat.reduceSub, EE.down]
 refine t_bslice (enc := eTValue) (ys := [x0]) rfl rfl (by simp [A1.cells]) (by first | rfl | (simp only [List.drop_zero, take_mapL]; rfl) | (simp only [lit, List.map_cons, List.map_nil, List.drop_zero, take_mapL, EE.down]; done) | (simp only [lit, List.map_cons, List.map_nil, List.drop_zero, take_mapL, EE.down]; rfl)) ?_
 refine ww ?_
 obtain ⟨t1, ht1, h⟩ := bi h
 refine callX_gen (as1 := [.c (dM (([x0]).map eTValue))]) [(2, .arr 1 5 [])] [some 0, some 1, none] [] (F89_ok ht1) ⟨?_, rfl, ?_⟩ ?_ ?_ ?_ ?_ ?_ ?_ ?_ ?_
 · simp only [ZZ.down, Nat.reduceEqDiff, reduceCtorEq, Nat.reduceAdd, Nat.reduceLeDiff, Nat.reduceLT, Nat.reduceBNe, EE.down]
 · simp only [ZZ.down, Nat.reduceEqDiff, reduceCtorEq, Nat.reduceAdd, Nat.reduceLeDiff, Nat.reduceLT, Nat.reduceBNe, EE.down]
 · simp only [ZZ.down, Nat.reduceEqDiff, reduceCtorEq, Nat.reduceAdd, Nat.reduceLeDiff, Nat.reduceLT, Nat.reduceBNe, EE.down]
 · rfl
 · rfl
 · simp [liveAll, A1.live, C.live]
 · rfl
 · decide
 · exact trivial
 refine ww ?_
 obtain ⟨y2, hy2, h⟩ := bi h
 refine t_idxO (enc := eTValue) (xs := t1.1) rfl rfl rfl (by first | rfl | simp only [List.length_set] | exact (clrL_len (slI_len (by assumption))).symm) hy2 ?_
 refine ww ?_
 refine LdRow.rd (rdI_some hy2).2.1 ?_
 refine ww ?_
 cases h
 exact eF []

/- orchestrator/store.clone -/
def F34_l5  : List Manager → Nat → (List Manager) → Option ((List Manager))
  | [], o5_1, o5_0 => some o5_0
  | xo5 :: xs, o5_1, o5_0 => (rdI o5_0 ((o5_1 : Int))).bind fun y7 => (cloneI y7.Fields).bind fun t8 => (rdI o5_0 ((o5_1 : Int))).bind fun y9 => F34_l5  xs (o5_1 + 1) ((o5_0.set ((o5_1 : Int)).toNat ((⟨y9.Name, t8⟩ : Manager))))
def F34 (x0 : Object) : Option ((List Label) × (List Owner) × (List ByteArray) × (List Manager) × Int × Int × ByteArray × ((List TValue)) × ((List TField)) × Int × Int × ByteArray × ((List TValue)) × ((List TField))) := (cloneI x0.Meta.Labels).bind fun t1 => (cloneI x0.Meta.Owners).bind fun t2 => (cloneI x0.Meta.Finalizers).bind fun t3 => (cloneI x0.Meta.Managers).bind fun t4 => (((ck (0 ≤ t4.length ∧ t4.length ≤ 4294967290)).bind fun u10 => F34_l5 t4 0 t4).bind fun o5 => (F66 x0.Spec).bind fun t11 => (F66 x0.Status).bind fun t12 => some ((t1, t2, t3, o5, (t11).Kind, (t11).N, (t11).S, (t11).List_, (t11).Fields, (t12).Kind, (t12).N, (t12).S, (t12).List_, (t12).Fields)))
def a34 : AFn := ⟨72, [(.cell 2 (some 23))],
 (.seq (.reg [sq 1 (.box (.t 0)),
sq 2 (.zbox [dS ⟨#[]⟩, dS ⟨#[]⟩, dS ⟨#[]⟩, dI 0, dI 0, dI 0, dI 0, dB false, dI 0, dN, dN, dN, dN, dI 0, dI 0, dS ⟨#[]⟩, dN, dN, dI 0, dI 0, dS ⟨#[]⟩, dN, dN])])
 (.seq (.reg [sq 5 (.fieldA 0 (.t 1)),
sq 3 (.mv (.t 5))])
 (.seq (.regd [sq 6 (.mv (.t 3)),
sq 7 (.mv (.t 3)),
sq 8 (.mv (.t 3)),
sq 9 (.mv (.t 3)),
sq 10 (.mv (.t 3)),
sd 11 (.fieldA 0 (.t 10)) [4],
sd 12 (.fieldA 9 (.t 11)) [4, 5],
sd 13 (.load none (.t 12)) [4, 5, 6],
⟨(some 14), none, .call 62 [(.t 13)], [4, 5, 6, 7], (.new [4, 5, 6, 7])⟩,
sq 15 (.mv (.t 3)),
sd 16 (.fieldA 0 (.t 15)) [9],
sd 17 (.fieldA 10 (.t 16)) [9, 10],
sd 18 (.load none (.t 17)) [9, 10, 11],
⟨(some 19), none, .call 63 [(.t 18)], [4, 5, 6, 7, 8, 9, 10, 11, 12], (.new [4, 5, 6, 7, 8, 9, 10, 11, 12])⟩,
sq 20 (.mv (.t 3)),
sd 21 (.fieldA 0 (.t 20)) [14],
sd 22 (.fieldA 11 (.t 21)) [14, 15],
sd 23 (.load none (.t 22)) [14, 15, 16],
⟨(some 24), none, .call 64 [(.t 23)], [4, 5, 6, 7, 8, 9, 10, 11, 12, 13, 14, 15, 16, 17], (.new [4, 5, 6, 7, 8, 9, 10, 11, 12, 13, 14, 15, 16, 17])⟩,
sq 25 (.mv (.t 3)),
sd 26 (.fieldA 0 (.t 25)) [19],
sd 27 (.fieldA 12 (.t 26)) [19, 20],
sd 28 (.load none (.t 27)) [19, 20, 21],
⟨(some 29), none, .call 65 [(.t 28)], [4, 5, 6, 7, 8, 9, 10, 11, 12, 13, 14, 15, 16, 17, 18, 19, 20, 21, 22], (.lone [])⟩,
sd 30 (.fieldA 0 (.t 6)) [0, 4, 5, 6, 7, 8, 9, 10, 11, 12, 13, 14, 15, 16, 17, 18, 19, 20, 21, 22, 23],
sd 31 (.fieldA 9 (.t 30)) [0, 4, 5, 6, 7, 8, 9, 10, 11, 12, 13, 14, 15, 16, 17, 18, 19, 20, 21, 22, 23, 24],
⟨none, none, .store 1 (.t 31) (.t 14), [0, 4, 5, 6, 7, 8, 9, 10, 11, 12, 13, 14, 15, 16, 17, 18, 19, 20, 21, 22, 23, 24, 25], (.lone [])⟩,
sd 32 (.fieldA 0 (.t 7)) [0, 1, 4, 5, 6, 7, 8, 9, 10, 11, 12, 13, 14, 15, 16, 17, 18, 19, 20, 21, 22, 23, 24, 25, 26],
sd 33 (.fieldA 10 (.t 32)) [0, 1, 4, 5, 6, 7, 8, 9, 10, 11, 12, 13, 14, 15, 16, 17, 18, 19, 20, 21, 22, 23, 24, 25, 26, 27],
⟨none, none, .store 1 (.t 33) (.t 19), [0, 1, 4, 5, 6, 7, 8, 9, 10, 11, 12, 13, 14, 15, 16, 17, 18, 19, 20, 21, 22, 23, 24, 25, 26, 27, 28], (.lone [])⟩,
sd 34 (.fieldA 0 (.t 8)) [0, 1, 2, 4, 5, 6, 7, 8, 9, 10, 11, 12, 13, 14, 15, 16, 17, 18, 19, 20, 21, 22, 23, 24, 25, 26, 27, 28, 29],
sd 35 (.fieldA 11 (.t 34)) [0, 1, 2, 4, 5, 6, 7, 8, 9, 10, 11, 12, 13, 14, 15, 16, 17, 18, 19, 20, 21, 22, 23, 24, 25, 26, 27, 28, 29, 30],
⟨none, none, .store 1 (.t 35) (.t 24), [0, 1, 2, 4, 5, 6, 7, 8, 9, 10, 11, 12, 13, 14, 15, 16, 17, 18, 19, 20, 21, 22, 23, 24, 25, 26, 27, 28, 29, 30, 31], (.lone [])⟩,
sd 36 (.fieldA 0 (.t 9)) [0, 1, 2, 3, 4, 5, 6, 7, 8, 9, 10, 11, 12, 13, 14, 15, 16, 17, 18, 19, 20, 21, 22, 23, 24, 25, 26, 27, 28, 29, 30, 31, 32],
sd 37 (.fieldA 12 (.t 36)) [0, 1, 2, 3, 4, 5, 6, 7, 8, 9, 10, 11, 12, 13, 14, 15, 16, 17, 18, 19, 20, 21, 22, 23, 24, 25, 26, 27, 28, 29, 30, 31, 32, 33],
⟨none, none, .store 1 (.t 37) (.t 29), [0, 1, 2, 3, 4, 5, 6, 7, 8, 9, 10, 11, 12, 13, 14, 15, 16, 17, 18, 19, 20, 21, 22, 23, 24, 25, 26, 27, 28, 29, 30, 31, 32, 33, 34], (.lone [])⟩])
 (.seq (.seq (.reg [sq 38 (.mv (.t 3)),
sq 39 (.fieldA 0 (.t 38)),
sq 40 (.fieldA 12 (.t 39)),
sq 41 (.load none (.t 40)),
sq 42 (.len (.t 41)),
sq 43 (.mv (kI 0))])
 (.sem (.block 0 (.loop (.seq (.reg [sq 44 (.bin .lss (.t 43) (.t 42))])
 (.seq (.cond (.t 44)
 .skip
 (.exit 0))
 (.seq (.block 1 (.seq (.reg [sq 45 (.mv (.t 43)),
sq 4 (.mv (.t 45))])
 (.regd [sq 46 (.mv (.t 3)),
sd 47 (.fieldA 0 (.t 46)) [0],
sd 48 (.fieldA 12 (.t 47)) [0, 1],
sd 49 (.load none (.t 48)) [0, 1, 2],
sq 50 (.mv (.t 4)),
sq 51 (.mv (.t 3)),
sd 52 (.fieldA 0 (.t 51)) [5],
sd 53 (.fieldA 12 (.t 52)) [5, 6],
sd 54 (.load none (.t 53)) [5, 6, 7],
sq 55 (.mv (.t 4)),
sd 56 (.indexA 2 (.t 54) (.t 55)) [5, 6, 7, 8, 9],
sd 57 (.fieldA 1 (.t 56)) [5, 6, 7, 8, 9, 10],
sd 58 (.load none (.t 57)) [5, 6, 7, 8, 9, 10, 11],
⟨(some 59), none, .call 64 [(.t 58)], [5, 6, 7, 8, 9, 10, 11, 12], (.lone [46, 47, 48])⟩,
sd 60 (.indexA 2 (.t 49) (.t 50)) [0, 1, 2, 3, 4, 5, 6, 7, 8, 9, 10, 11, 12, 13],
sd 61 (.fieldA 1 (.t 60)) [0, 1, 2, 3, 4, 5, 6, 7, 8, 9, 10, 11, 12, 13, 14],
⟨none, none, .store 1 (.t 61) (.t 59), [0, 1, 2, 3, 4, 5, 6, 7, 8, 9, 10, 11, 12, 13, 14, 15], (.lone [])⟩])))
 (.reg [sq 62 (.bin .add (.t 43) (kI 1)),
sq 43 (.mv (.t 62))]))))))))
 (.seq (.regd [sq 63 (.fieldA 13 (.t 1)),
sd 64 (.load (some 5) (.t 63)) [0],
⟨(some 65), none, .call 66 [(.t 64)], [0, 1], (.new [0, 1])⟩,
sq 66 (.fieldA 18 (.t 1)),
sd 67 (.load (some 5) (.t 66)) [3],
⟨(some 68), none, .call 66 [(.t 67)], [0, 1, 2, 3, 4], (.lone [])⟩,
sd 69 (.fieldA 13 (.t 1)) [0, 1, 2, 3, 4, 5],
⟨none, none, .store 5 (.t 69) (.t 65), [0, 1, 2, 3, 4, 5, 6], (.lone [])⟩,
sd 70 (.fieldA 18 (.t 1)) [0, 1, 2, 3, 4, 5, 6, 7],
⟨none, none, .store 5 (.t 70) (.t 68), [0, 1, 2, 3, 4, 5, 6, 7, 8], (.lone [])⟩])
 (.seq (.reg [sq 71 (.load (some 23) (.t 1)),
⟨none, none, .store 23 (.t 2) (.t 71), [], (.lone [1])⟩])
 .ret))))))⟩
theorem a34_ok : afn Try.prog 34 = some a34.er := by kernel_rfl
theorem F34_ok {x0 : Object} {r : (List Label) × (List Owner) × (List ByteArray) × (List Manager) × Int × Int × ByteArray × ((List TValue)) × ((List TField)) × Int × Int × ByteArray × ((List TValue)) × ((List TField))} (h : F34 x0 = some r) : CallD Try.prog 34 [.agg [dS x0.Meta.Kind, dS x0.Meta.Namespace, dS x0.Meta.Name, dI x0.Meta.Uid, dI x0.Meta.Version, dI x0.Meta.Generation, dI x0.Meta.Created, dB x0.Meta.Deleting, dI x0.Meta.DeleteAt, dM (x0.Meta.Labels.map eLabel), dM (x0.Meta.Owners.map eOwner), dM (x0.Meta.Finalizers.map eS), dM (x0.Meta.Managers.map eManager), dI x0.Spec.Kind, dI x0.Spec.N, dS x0.Spec.S, dM (x0.Spec.List_.map eTValue), dM (x0.Spec.Fields.map eTField), dI x0.Status.Kind, dI x0.Status.N, dS x0.Status.S, dM (x0.Status.List_.map eTValue), dM (x0.Status.Fields.map eTField)]] [] (tupV [.agg [dS x0.Meta.Kind, dS x0.Meta.Namespace, dS x0.Meta.Name, dI x0.Meta.Uid, dI x0.Meta.Version, dI x0.Meta.Generation, dI x0.Meta.Created, dB x0.Meta.Deleting, dI x0.Meta.DeleteAt, .own 0 0 0 (r.1.length) none, .own 1 0 0 (r.2.1.length) none, .own 2 0 0 (r.2.2.1.length) none, .own 3 0 0 (r.2.2.2.1.length) none, dI r.2.2.2.2.1, dI r.2.2.2.2.2.1, dS r.2.2.2.2.2.2.1, dM (r.2.2.2.2.2.2.2.1.map eTValue), dM (r.2.2.2.2.2.2.2.2.1.map eTField), dI r.2.2.2.2.2.2.2.2.2.1, dI r.2.2.2.2.2.2.2.2.2.2.1, dS r.2.2.2.2.2.2.2.2.2.2.2.1, dM (r.2.2.2.2.2.2.2.2.2.2.2.2.1.map eTValue), dM (r.2.2.2.2.2.2.2.2.2.2.2.2.2.map eTField)]]) [some (.arr 0 2 (r.1.map eLabel)), some (.arr 0 5 (r.2.1.map eOwner)), some (.arr 0 1 (r.2.2.1.map eS)), some (.arr 0 2 (r.2.2.2.1.map eManager))] := by
 refine callS a34_ok (by simp [a34]) ?_
 rw [F34] at h
 simp only [a34, VW.down, Nat.reduceEqDiff, reduceCtorEq, Nat.reduceAdd, Nat.reduceLeDiff, Nat.reduceLT, Nat.reduceBEq, Nat.reduceSub, EE.down]
 obtain ⟨t1, ht1, h⟩ := bi h
 refine cN [] (F62_ok ht1) trivial ?_
 refine ww ?_
 refine kD_new (by simp [wrs, allW, hset]) ?_
 refine ww ?_
 obtain ⟨t2, ht2, h⟩ := bi h
 refine cN [] (F63_ok ht2) trivial ?_
 refine ww ?_
 refine kD_new (by simp [wrs, allW, hset]) ?_
 refine ww ?_
 obtain ⟨t3, ht3, h⟩ := bi h
 refine cN [] (F64_ok ht3) trivial ?_
 refine ww ?_
 refine kD_new (by simp [wrs, allW, hset]) ?_
 refine ww ?_
 obtain ⟨t4, ht4, h⟩ := bi h
 refine cN [] (F65_ok ht4) trivial ?_
 refine ww ?_
 obtain ⟨o5, ho, h⟩ := bi h
 refine cutS (fun s => s = ⟨[(1, .one (.c (.pt 0 0))), (2, .one (.c (.pt 5 0)))], [some (.box [dS x0.Meta.Kind, dS x0.Meta.Namespace, dS x0.Meta.Name, dI x0.Meta.Uid, dI x0.Meta.Version, dI x0.Meta.Generation, dI x0.Meta.Created, dB x0.Meta.Deleting, dI x0.Meta.DeleteAt, .own 1 0 0 (t1.length) none, .own 2 0 0 (t2.length) none, .own 3 0 0 (t3.length) none, .own 4 0 0 (o5.length) none, dI x0.Spec.Kind, dI x0.Spec.N, dS x0.Spec.S, dM (x0.Spec.List_.map eTValue), dM (x0.Spec.Fields.map eTField), dI x0.Status.Kind, dI x0.Status.N, dS x0.Status.S, dM (x0.Status.List_.map eTValue), dM (x0.Status.Fields.map eTField)]), some (.arr 0 2 (t1.map eLabel)), some (.arr 0 5 (t2.map eOwner)), some (.arr 0 1 (t3.map eS)), some (.arr 0 2 (o5.map eManager)), some (.box [dS ((⟨#[]⟩ : ByteArray)), dS ((⟨#[]⟩ : ByteArray)), dS ((⟨#[]⟩ : ByteArray)), dI 0, dI 0, dI 0, dI 0, dB false, dI 0, dN, dN, dN, dN, dI 0, dI 0, dS ((⟨#[]⟩ : ByteArray)), dN, dN, dI 0, dI 0, dS ((⟨#[]⟩ : ByteArray)), dN, dN])]⟩) ?_ ?_
 ·have h := ho
  clear ho
  obtain ⟨_, hk, h⟩ := bi h
  have hk := ck_some hk
  refine ww ?_
  refine bL (fun j s => ∃ (o5_1 : Nat) (o5_0 : List Manager), (o5_1 ≤ t4.length ∧ j = t4.length - o5_1) ∧ s = ⟨[(1, .one (.c (.pt 0 0))), (2, .one (.c (.pt 5 0))), (3, .one (.c (.pt 0 0))), (42, .one (.c (dI ((t4.length : Int))))), (43, .one (.c (dI ((o5_1 : Int)))))], [some (.box [dS x0.Meta.Kind, dS x0.Meta.Namespace, dS x0.Meta.Name, dI x0.Meta.Uid, dI x0.Meta.Version, dI x0.Meta.Generation, dI x0.Meta.Created, dB x0.Meta.Deleting, dI x0.Meta.DeleteAt, .own 1 0 0 (t1.length) none, .own 2 0 0 (t2.length) none, .own 3 0 0 (t3.length) none, .own 4 0 0 (o5_0.length) none, dI x0.Spec.Kind, dI x0.Spec.N, dS x0.Spec.S, dM (x0.Spec.List_.map eTValue), dM (x0.Spec.Fields.map eTField), dI x0.Status.Kind, dI x0.Status.N, dS x0.Status.S, dM (x0.Status.List_.map eTValue), dM (x0.Status.Fields.map eTField)]), some (.arr 0 2 (t1.map eLabel)), some (.arr 0 5 (t2.map eOwner)), some (.arr 0 1 (t3.map eS)), some (.arr 0 2 (o5_0.map eManager)), some (.box [dS ((⟨#[]⟩ : ByteArray)), dS ((⟨#[]⟩ : ByteArray)), dS ((⟨#[]⟩ : ByteArray)), dI 0, dI 0, dI 0, dI 0, dB false, dI 0, dN, dN, dN, dN, dI 0, dI 0, dS ((⟨#[]⟩ : ByteArray)), dN, dN, dI 0, dI 0, dS ((⟨#[]⟩ : ByteArray)), dN, dN])]⟩ ∧ F34_l5 (t4.drop o5_1) o5_1 o5_0 = some o5) (t4.length - 0) [some 0, some 2, some 3, some 4, some 5, some 1] ⟨0, t4, ⟨hk.1, rfl⟩, rfl, h⟩ ?_
  rintro _ _ ⟨o5_1, o5_0, ⟨hi, rfl⟩, rfl, h⟩
  refine ww ?_
  refine condS (fun c6 => ?_) (fun c6 => ?_)
  ·obtain ⟨xo5, hxo5, hd⟩ := countY (show (o5_1 : Int) < (t4.length : Int) from c6)
   rw [hd, F34_l5] at h
   refine ww ?_
   obtain ⟨y7, hy7, h⟩ := bi h
   refine t_idxO (enc := eManager) (xs := o5_0) rfl rfl rfl (by first | rfl | simp only [List.length_set] | exact (clrL_len (slI_len (by assumption))).symm) hy7 ?_
   refine ww ?_
   refine LdRow.rd (rdI_some hy7).2.1 ?_
   refine ww ?_
   obtain ⟨t8, ht8, h⟩ := bi h
   refine cN [] (F64_ok ht8) trivial ?_
   refine ww ?_
   obtain ⟨y9, hy9, h⟩ := bi h
   refine t_idxO (enc := eManager) (xs := o5_0) rfl rfl rfl (by first | rfl | simp only [List.length_set] | exact (clrL_len (slI_len (by assumption))).symm) hy9 ?_
   refine ww ?_
   refine StRow.rd (y' := (⟨y9.Name, t8⟩ : Manager)) (rdI_some hy9).2.1 (by simp [EE.down]) (by first | rfl | (simp only [bor_full']; rfl)) ?_
   refine ww ?_
   rw [wrapN (by omega)]
   exact eL' (t4.length - (o5_1 + 1)) [some 0, some 1, some 2, some 3, some 4, some 5] ⟨o5_1 + 1, (o5_0.set ((o5_1 : Int)).toNat ((⟨y9.Name, t8⟩ : Manager))), ⟨by omega, rfl⟩, rfl, h⟩ (by omega)
  ·rw [countN (show ¬ ((o5_1 : Int) < (t4.length : Int)) from c6), F34_l5] at h
   refine ww ?_
   cases h
   exact eM [some 0, some 1, some 2, some 3, some 4, some 5] rfl
 ·rintro _ rfl
  clear ho
  refine ww ?_
  obtain ⟨t11, ht11, h⟩ := bi h
  refine cN [] (F66_ok ht11) trivial ?_
  refine ww ?_
  obtain ⟨t12, ht12, h⟩ := bi h
  refine cN [] (F66_ok ht12) trivial ?_
  refine ww ?_
  cases h
  exact eF [some 1, some 2, some 3, some 4]

/- orchestrator/store.cloneAll -/
def F47_l1  : List Object → Nat → (List Object) → Option ((List Object))
  | [], o1_1, o1_0 => some o1_0
  | xo1 :: xs, o1_1, o1_0 => (F34 xo1).bind fun t3 => (apI o1_0 ([(⟨(⟨xo1.Meta.Kind, xo1.Meta.Namespace, xo1.Meta.Name, xo1.Meta.Uid, xo1.Meta.Version, xo1.Meta.Generation, xo1.Meta.Created, xo1.Meta.Deleting, xo1.Meta.DeleteAt, t3.1, t3.2.1, t3.2.2.1, t3.2.2.2.1⟩ : Meta), (⟨t3.2.2.2.2.1, t3.2.2.2.2.2.1, t3.2.2.2.2.2.2.1, t3.2.2.2.2.2.2.2.1, t3.2.2.2.2.2.2.2.2.1⟩ : TValue), (⟨t3.2.2.2.2.2.2.2.2.2.1, t3.2.2.2.2.2.2.2.2.2.2.1, t3.2.2.2.2.2.2.2.2.2.2.2.1, t3.2.2.2.2.2.2.2.2.2.2.2.2.1, t3.2.2.2.2.2.2.2.2.2.2.2.2.2⟩ : TValue)⟩ : Object)])).bind fun a4 => F47_l1  xs (o1_1 + 1) a4
def F47 (x0 : (List Object)) : Option ((List Object)) := (((ck (0 ≤ x0.length ∧ x0.length ≤ 4294967290)).bind fun u5 => F47_l1 x0 0 ([])).bind fun o1 => some o1)
def a47 : AFn := ⟨19, [(.tmp 2)],
 (.seq (.reg [sq 2 (.mv kN)])
 (.seq (.reg [sq 3 (.mv kN)])
 (.seq (.seq (.reg [sq 6 (.mv (.t 0)),
sq 7 (.len (.t 6)),
sq 8 (.mv (kI 0))])
 (.sem (.block 0 (.loop (.seq (.reg [sq 9 (.bin .lss (.t 8) (.t 7))])
 (.seq (.cond (.t 9)
 .skip
 (.exit 0))
 (.seq (.block 1 (.seq (.reg [sq 10 (.indexA 23 (.t 6) (.t 8)),
sq 11 (.load (some 23) (.t 10)),
sq 5 (.zbox [dS ⟨#[]⟩, dS ⟨#[]⟩, dS ⟨#[]⟩, dI 0, dI 0, dI 0, dI 0, dB false, dI 0, dN, dN, dN, dN, dI 0, dI 0, dS ⟨#[]⟩, dN, dN, dI 0, dI 0, dS ⟨#[]⟩, dN, dN]),
su (.store 23 (.t 5) (.t 11))])
 (.reg [sq 12 (.mv (.t 3)),
sq 13 (.load (some 23) (.t 5)),
sq 14 (.call 34 [(.t 13)]),
sq 15 (.bslice 23 [(.t 14)]),
sq 16 (.app 23 352 (.t 12) (.t 15)),
sq 3 (.mv (.t 16))])))
 (.reg [sq 17 (.bin .add (.t 8) (kI 1)),
sq 8 (.mv (.t 17))]))))))))
 (.seq (.reg [sq 18 (.mv (.t 3)),
sq 2 (.mv (.t 18))])
 .ret))))⟩
theorem a47_ok : afn Try.prog 47 = some a47.er := by kernel_rfl
theorem F47_ok {x0 : (List Object)} {r : (List Object)} (h : F47 x0 = some r) : CallD Try.prog 47 [.c (dM (x0.map eObject))] [] (tupV [.c (.own 0 0 0 (r.length) none)]) [some (.arr 0 23 (r.map eObject))] := by
 refine callS a47_ok (by simp [a47]) ?_
 rw [F47] at h
 simp only [a47, VW.down, Nat.reduceEqDiff, reduceCtorEq, Nat.reduceAdd, Nat.reduceLeDiff, Nat.reduceLT, Nat.reduceBEq, Nat.reduceSub, EE.down]
 obtain ⟨o1, ho, h⟩ := bi h
 refine cutS (fun s => s = ⟨[(3, .one (.c (.own 0 0 0 (o1.length) none)))], [some (.arr 0 23 (o1.map eObject))]⟩) ?_ ?_
 ·have h := ho
  clear ho
  obtain ⟨_, hk, h⟩ := bi h
  have hk := ck_some hk
  refine ww ?_
  refine bL (fun j s => ∃ (o1_1 : Nat) (o1_0 : List Object), (o1_1 ≤ x0.length ∧ j = x0.length - o1_1) ∧ s = ⟨[(3, .one (.c (.own 0 0 0 (o1_0.length) none))), (6, .one (.c (dM (x0.map eObject)))), (7, .one (.c (dI ((x0.length : Int))))), (8, .one (.c (dI ((o1_1 : Int)))))], [some (.arr 0 23 (o1_0.map eObject))]⟩ ∧ F47_l1 (x0.drop o1_1) o1_1 o1_0 = some o1) (x0.length - 0) [none] ⟨0, [], ⟨hk.1, rfl⟩, rfl, h⟩ ?_
  rintro _ _ ⟨o1_1, o1_0, ⟨hi, rfl⟩, rfl, h⟩
  refine ww ?_
  refine condS (fun c2 => ?_) (fun c2 => ?_)
  ·obtain ⟨xo1, hxo1, hd⟩ := countY (show (o1_1 : Int) < (x0.length : Int) from c2)
   rw [hd, F47_l1] at h
   refine ww ?_
   refine t_idxF (enc := eObject) (xs := x0) rfl rfl hxo1 rfl ?_
   refine ww ?_
   obtain ⟨t3, ht3, h⟩ := bi h
   refine cN [] (F34_ok ht3) trivial ?_
   refine ww ?_
   refine t_bslice (enc := eObject) (ys := [(⟨(⟨xo1.Meta.Kind, xo1.Meta.Namespace, xo1.Meta.Name, xo1.Meta.Uid, xo1.Meta.Version, xo1.Meta.Generation, xo1.Meta.Created, xo1.Meta.Deleting, xo1.Meta.DeleteAt, t3.1, t3.2.1, t3.2.2.1, t3.2.2.2.1⟩ : Meta), (⟨t3.2.2.2.2.1, t3.2.2.2.2.2.1, t3.2.2.2.2.2.2.1, t3.2.2.2.2.2.2.2.1, t3.2.2.2.2.2.2.2.2.1⟩ : TValue), (⟨t3.2.2.2.2.2.2.2.2.2.1, t3.2.2.2.2.2.2.2.2.2.2.1, t3.2.2.2.2.2.2.2.2.2.2.2.1, t3.2.2.2.2.2.2.2.2.2.2.2.2.1, t3.2.2.2.2.2.2.2.2.2.2.2.2.2⟩ : TValue)⟩ : Object)]) rfl rfl (by simp [A1.cells]) (by first | rfl | (simp only [List.drop_zero, take_mapL]; rfl) | (simp only [lit, List.map_cons, List.map_nil, List.drop_zero, take_mapL, EE.down]; done) | (simp only [lit, List.map_cons, List.map_nil, List.drop_zero, take_mapL, EE.down]; rfl)) ?_
   refine ww ?_
   obtain ⟨a4, ha4, h⟩ := bi h
   refine t_app (enc := eObject) (xs := o1_0) rfl rfl (by first | rfl | simp only [List.length_set] | exact (clrL_len (slI_len (by assumption))).symm) rfl (rows_full (enc := eObject) (by first | rfl | simp only [List.length_set] | exact (clrL_len (slI_len (by assumption))).symm) rfl) ha4 ?_
   refine ww ?_
   rw [wrapN (by omega)]
   exact eL' (x0.length - (o1_1 + 1)) [some 0] ⟨o1_1 + 1, a4, ⟨by omega, rfl⟩, rfl, h⟩ (by omega)
  ·rw [countN (show ¬ ((o1_1 : Int) < (x0.length : Int)) from c2), F47_l1] at h
   refine ww ?_
   cases h
   exact eM [some 0] rfl
 ·rintro _ rfl
  clear ho
  refine ww ?_
  cases h
  exact eF [some 0]

/- slices.Clone[[]orchestrator/api.Change,orchestrator/api.Change] -/
theorem a60_ok : afn Try.prog 60 = some (cloneA 25 368) := by kernel_rfl
theorem F60_ok {x0 r : List Change} (h : cloneI x0 = some r) : CallD Try.prog 60 [.c (dM (x0.map eChange))] [] (tupV [.c (.own 0 1 0 r.length none)]) [some (.arr 1 25 (r.map eChange))] := L_clone a60_ok (fun _ => rfl) h

/- orchestrator/store.copied -/
def F32_l4  : List Change → Nat → (List Change) → Option ((List Change))
  | [], o4_1, o4_0 => some o4_0
  | xo4 :: xs, o4_1, o4_0 => (rdI o4_0 ((o4_1 : Int))).bind fun y6 => (F34 y6.Object).bind fun t7 => (rdI o4_0 ((o4_1 : Int))).bind fun y8 => F32_l4  xs (o4_1 + 1) ((o4_0.set ((o4_1 : Int)).toNat ((⟨y8.Rev, y8.Kind, (⟨(⟨y6.Object.Meta.Kind, y6.Object.Meta.Namespace, y6.Object.Meta.Name, y6.Object.Meta.Uid, y6.Object.Meta.Version, y6.Object.Meta.Generation, y6.Object.Meta.Created, y6.Object.Meta.Deleting, y6.Object.Meta.DeleteAt, t7.1, t7.2.1, t7.2.2.1, t7.2.2.2.1⟩ : Meta), (⟨t7.2.2.2.2.1, t7.2.2.2.2.2.1, t7.2.2.2.2.2.2.1, t7.2.2.2.2.2.2.2.1, t7.2.2.2.2.2.2.2.2.1⟩ : TValue), (⟨t7.2.2.2.2.2.2.2.2.2.1, t7.2.2.2.2.2.2.2.2.2.2.1, t7.2.2.2.2.2.2.2.2.2.2.2.1, t7.2.2.2.2.2.2.2.2.2.2.2.2.1, t7.2.2.2.2.2.2.2.2.2.2.2.2.2⟩ : TValue)⟩ : Object)⟩ : Change))))
def F32 (x0 : TStore) : Option ((List Object) × (List Object) × (List Change)) := (F47 x0.Base).bind fun t1 => (F47 x0.Objects).bind fun t2 => (cloneI x0.History).bind fun t3 => (((ck (0 ≤ t3.length ∧ t3.length ≤ 4294967290)).bind fun u9 => F32_l4 t3 0 t3).bind fun o4 => some ((t1, t2, o4)))
def a32 : AFn := ⟨36, [(.cell 2 (some 6))],
 (.seq (.reg [sq 1 (.box (.t 0)),
sq 2 (.zbox [dI 0, dI 0, dI 0, dN, dN, dN])])
 (.seq (.regd [sq 4 (.fieldA 3 (.t 1)),
sd 5 (.load none (.t 4)) [0],
⟨(some 6), none, .call 47 [(.t 5)], [0, 1], (.new [0, 1])⟩,
sq 7 (.fieldA 4 (.t 1)),
sd 8 (.load none (.t 7)) [3],
sd 9 (.call 47 [(.t 8)]) [0, 1, 2, 3, 4],
sd 10 (.fieldA 3 (.t 1)) [0, 1, 2, 3, 4],
⟨none, none, .store 1 (.t 10) (.t 6), [0, 1, 2, 3, 4, 5, 6], (.lone [])⟩,
sd 11 (.fieldA 4 (.t 1)) [0, 1, 2, 3, 4, 5, 6, 7],
⟨none, none, .store 1 (.t 11) (.t 9), [0, 1, 2, 3, 4, 5, 6, 7, 8], (.lone [])⟩])
 (.seq (.reg [sq 12 (.fieldA 5 (.t 1)),
sq 13 (.load none (.t 12)),
sq 14 (.call 60 [(.t 13)]),
sq 15 (.fieldA 5 (.t 1)),
su (.store 1 (.t 15) (.t 14))])
 (.seq (.seq (.reg [sq 16 (.fieldA 5 (.t 1)),
sq 17 (.load none (.t 16)),
sq 18 (.len (.t 17)),
sq 19 (.mv (kI 0))])
 (.sem (.block 0 (.loop (.seq (.reg [sq 20 (.bin .lss (.t 19) (.t 18))])
 (.seq (.cond (.t 20)
 .skip
 (.exit 0))
 (.seq (.block 1 (.seq (.reg [sq 21 (.mv (.t 19)),
sq 3 (.mv (.t 21))])
 (.regd [sq 22 (.fieldA 5 (.t 1)),
sd 23 (.load none (.t 22)) [0],
sq 24 (.mv (.t 3)),
sq 25 (.fieldA 5 (.t 1)),
sd 26 (.load none (.t 25)) [3],
sq 27 (.mv (.t 3)),
sd 28 (.indexA 25 (.t 26) (.t 27)) [3, 4, 5],
sd 29 (.fieldA 2 (.t 28)) [3, 4, 5, 6],
sd 30 (.load (some 23) (.t 29)) [3, 4, 5, 6, 7],
⟨(some 31), none, .call 34 [(.t 30)], [3, 4, 5, 6, 7, 8], (.lone [1, 22])⟩,
sd 32 (.indexA 25 (.t 23) (.t 24)) [0, 1, 2, 3, 4, 5, 6, 7, 8, 9],
sd 33 (.fieldA 2 (.t 32)) [0, 1, 2, 3, 4, 5, 6, 7, 8, 9, 10],
⟨none, none, .store 23 (.t 33) (.t 31), [0, 1, 2, 3, 4, 5, 6, 7, 8, 9, 10, 11], (.lone [])⟩])))
 (.reg [sq 34 (.bin .add (.t 19) (kI 1)),
sq 19 (.mv (.t 34))]))))))))
 (.seq (.reg [sq 35 (.load (some 6) (.t 1)),
⟨none, none, .store 6 (.t 2) (.t 35), [], (.lone [1])⟩])
 .ret)))))⟩
theorem a32_ok : afn Try.prog 32 = some a32.er := by kernel_rfl
theorem F32_ok {x0 : TStore} {r : (List Object) × (List Object) × (List Change)} (h : F32 x0 = some r) : CallD Try.prog 32 [.agg [dI x0.Rev, dI x0.Floor, dI x0.NextUid, dM (x0.Base.map eObject), dM (x0.Objects.map eObject), dM (x0.History.map eChange)]] [] (tupV [.agg [dI x0.Rev, dI x0.Floor, dI x0.NextUid, .own 0 0 0 (r.1.length) none, .own 1 0 0 (r.2.1.length) none, .own 2 0 0 (r.2.2.length) none]]) [some (.arr 0 23 (r.1.map eObject)), some (.arr 0 23 (r.2.1.map eObject)), some (.arr 0 25 (r.2.2.map eChange))] := by
 refine callS a32_ok (by simp [a32]) ?_
 rw [F32] at h
 simp only [a32, VW.down, Nat.reduceEqDiff, reduceCtorEq, Nat.reduceAdd, Nat.reduceLeDiff, Nat.reduceLT, Nat.reduceBEq, Nat.reduceSub, EE.down]
 obtain ⟨t1, ht1, h⟩ := bi h
 refine cN [] (F47_ok ht1) trivial ?_
 refine ww ?_
 refine kD_new (by simp [wrs, allW, hset]) ?_
 refine ww ?_
 obtain ⟨t2, ht2, h⟩ := bi h
 refine cN [] (F47_ok ht2) trivial ?_
 refine ww ?_
 refine kD_new (by simp [wrs, allW, hset]) ?_
 refine ww ?_
 obtain ⟨t3, ht3, h⟩ := bi h
 refine cN [] (F60_ok ht3) trivial ?_
 refine ww ?_
 obtain ⟨o4, ho, h⟩ := bi h
 refine cutS (fun s => s = ⟨[(1, .one (.c (.pt 0 0))), (2, .one (.c (.pt 4 0)))], [some (.box [dI x0.Rev, dI x0.Floor, dI x0.NextUid, .own 1 0 0 (t1.length) none, .own 2 0 0 (t2.length) none, .own 3 0 0 (o4.length) none]), some (.arr 0 23 (t1.map eObject)), some (.arr 0 23 (t2.map eObject)), some (.arr 0 25 (o4.map eChange)), some (.box [dI 0, dI 0, dI 0, dN, dN, dN])]⟩) ?_ ?_
 ·have h := ho
  clear ho
  obtain ⟨_, hk, h⟩ := bi h
  have hk := ck_some hk
  refine ww ?_
  refine bL (fun j s => ∃ (o4_1 : Nat) (o4_0 : List Change), (o4_1 ≤ t3.length ∧ j = t3.length - o4_1) ∧ s = ⟨[(1, .one (.c (.pt 0 0))), (2, .one (.c (.pt 4 0))), (18, .one (.c (dI ((t3.length : Int))))), (19, .one (.c (dI ((o4_1 : Int)))))], [some (.box [dI x0.Rev, dI x0.Floor, dI x0.NextUid, .own 1 0 0 (t1.length) none, .own 2 0 0 (t2.length) none, .own 3 0 0 (o4_0.length) none]), some (.arr 0 23 (t1.map eObject)), some (.arr 0 23 (t2.map eObject)), some (.arr 0 25 (o4_0.map eChange)), some (.box [dI 0, dI 0, dI 0, dN, dN, dN])]⟩ ∧ F32_l4 (t3.drop o4_1) o4_1 o4_0 = some o4) (t3.length - 0) [some 0, some 2, some 3, some 4, some 1] ⟨0, t3, ⟨hk.1, rfl⟩, rfl, h⟩ ?_
  rintro _ _ ⟨o4_1, o4_0, ⟨hi, rfl⟩, rfl, h⟩
  refine ww ?_
  refine condS (fun c5 => ?_) (fun c5 => ?_)
  ·obtain ⟨xo4, hxo4, hd⟩ := countY (show (o4_1 : Int) < (t3.length : Int) from c5)
   rw [hd, F32_l4] at h
   refine ww ?_
   obtain ⟨y6, hy6, h⟩ := bi h
   refine t_idxO (enc := eChange) (xs := o4_0) rfl rfl rfl (by first | rfl | simp only [List.length_set] | exact (clrL_len (slI_len (by assumption))).symm) hy6 ?_
   refine ww ?_
   refine LdRow.rd (rdI_some hy6).2.1 ?_
   refine ww ?_
   obtain ⟨t7, ht7, h⟩ := bi h
   refine cN [] (F34_ok ht7) trivial ?_
   refine ww ?_
   obtain ⟨y8, hy8, h⟩ := bi h
   refine t_idxO (enc := eChange) (xs := o4_0) rfl rfl rfl (by first | rfl | simp only [List.length_set] | exact (clrL_len (slI_len (by assumption))).symm) hy8 ?_
   refine ww ?_
   refine StRow.rd (y' := (⟨y8.Rev, y8.Kind, (⟨(⟨y6.Object.Meta.Kind, y6.Object.Meta.Namespace, y6.Object.Meta.Name, y6.Object.Meta.Uid, y6.Object.Meta.Version, y6.Object.Meta.Generation, y6.Object.Meta.Created, y6.Object.Meta.Deleting, y6.Object.Meta.DeleteAt, t7.1, t7.2.1, t7.2.2.1, t7.2.2.2.1⟩ : Meta), (⟨t7.2.2.2.2.1, t7.2.2.2.2.2.1, t7.2.2.2.2.2.2.1, t7.2.2.2.2.2.2.2.1, t7.2.2.2.2.2.2.2.2.1⟩ : TValue), (⟨t7.2.2.2.2.2.2.2.2.2.1, t7.2.2.2.2.2.2.2.2.2.2.1, t7.2.2.2.2.2.2.2.2.2.2.2.1, t7.2.2.2.2.2.2.2.2.2.2.2.2.1, t7.2.2.2.2.2.2.2.2.2.2.2.2.2⟩ : TValue)⟩ : Object)⟩ : Change)) (rdI_some hy8).2.1 (by simp [EE.down]) (by first | rfl | (simp only [bor_full']; rfl)) ?_
   refine ww ?_
   rw [wrapN (by omega)]
   exact eL' (t3.length - (o4_1 + 1)) [some 0, some 1, some 2, some 3, some 4] ⟨o4_1 + 1, (o4_0.set ((o4_1 : Int)).toNat ((⟨y8.Rev, y8.Kind, (⟨(⟨y6.Object.Meta.Kind, y6.Object.Meta.Namespace, y6.Object.Meta.Name, y6.Object.Meta.Uid, y6.Object.Meta.Version, y6.Object.Meta.Generation, y6.Object.Meta.Created, y6.Object.Meta.Deleting, y6.Object.Meta.DeleteAt, t7.1, t7.2.1, t7.2.2.1, t7.2.2.2.1⟩ : Meta), (⟨t7.2.2.2.2.1, t7.2.2.2.2.2.1, t7.2.2.2.2.2.2.1, t7.2.2.2.2.2.2.2.1, t7.2.2.2.2.2.2.2.2.1⟩ : TValue), (⟨t7.2.2.2.2.2.2.2.2.2.1, t7.2.2.2.2.2.2.2.2.2.2.1, t7.2.2.2.2.2.2.2.2.2.2.2.1, t7.2.2.2.2.2.2.2.2.2.2.2.2.1, t7.2.2.2.2.2.2.2.2.2.2.2.2.2⟩ : TValue)⟩ : Object)⟩ : Change))), ⟨by omega, rfl⟩, rfl, h⟩ (by omega)
  ·rw [countN (show ¬ ((o4_1 : Int) < (t3.length : Int)) from c5), F32_l4] at h
   refine ww ?_
   cases h
   exact eM [some 0, some 1, some 2, some 3, some 4] rfl
 ·rintro _ rfl
  clear ho
  refine ww ?_
  cases h
  exact eF [some 1, some 2, some 3]

/- slices.Clone[[]orchestrator/api.Object,orchestrator/api.Object] -/
theorem a44_ok : afn Try.prog 44 = some (cloneA 23 352) := by kernel_rfl
theorem F44_ok {x0 r : List Object} (h : cloneI x0 = some r) : CallD Try.prog 44 [.c (dM (x0.map eObject))] [] (tupV [.c (.own 0 1 0 r.length none)]) [some (.arr 1 23 (r.map eObject))] := L_clone a44_ok (fun _ => rfl) h

/- slices.Delete[[]orchestrator/api.Object,orchestrator/api.Object] -/
theorem a68_ok : afn Try.prog 68 = some (deleteA 23 352 [.v (.string ⟨#[]⟩), .v (.string ⟨#[]⟩), .v (.string ⟨#[]⟩), .v (.int .i64 0), .v (.int .i64 0), .v (.int .i64 0), .v (.int .i64 0), .v (.bool false), .v (.int .i64 0), .sl [], .sl [], .sl [], .sl [], .v (.int .i64 0), .v (.int .i64 0), .v (.string ⟨#[]⟩), .sl [], .sl [], .v (.int .i64 0), .v (.int .i64 0), .v (.string ⟨#[]⟩), .sl [], .sl []]) := by kernel_rfl
theorem F68_ok {x0 r : List Object} {i j : Int} {e0 : Nat} (h : delI x0 i j = some r) : CallD Try.prog 68 [.c (.own 0 e0 0 x0.length none), aI i, aI j] [some (.arr e0 23 (x0.map eObject))] (tupV [.c (.own 0 (e0 + 1) 0 r.length none)]) [some (.arr (e0 + 1) 23 (r.map eObject))] := L_delete a68_ok (fun _ => rfl) h

/- slices.overlaps[orchestrator/api.Object] -/
noncomputable def fn95 : Func := (Try.prog.funcs[95]?).getD default
theorem fn95_ok : Try.prog.funcs[95]? = some fn95 := by kernel_rfl
theorem ov95 (e0 e1 o0 o1 l0 l1 : Nat) (c0 c1 : Option Nat) (r0 r1 : List (List D)) :
    CallD Try.prog 95 [.c (.own 0 e0 o0 l0 c0), .c (.own 1 e1 o1 l1 c1)] [some (.arr e0 23 r0), some (.arr e1 23 r1)] (.one (aB false)) [some (.arr e0 23 r0), some (.arr e1 23 r1)] :=
  ovl_callD (tS := 25) (tT := 4) (e := 41) (ps := #[25, 25]) (rs := #[4]) fn95_ok (by kernel_rfl) (by kernel_rfl) (by kernel_rfl) (by kernel_rfl) rfl rfl (by kernel_rfl) (by kernel_rfl) e0 e1 o0 o1 l0 l1 c0 c1 r0 r1

/- slices.Insert[[]orchestrator/api.Object,orchestrator/api.Object] -/
theorem a69_ok : afn Try.prog 69 = some (insertA 23 352 [.v (.string ⟨#[]⟩), .v (.string ⟨#[]⟩), .v (.string ⟨#[]⟩), .v (.int .i64 0), .v (.int .i64 0), .v (.int .i64 0), .v (.int .i64 0), .v (.bool false), .v (.int .i64 0), .sl [], .sl [], .sl [], .sl [], .v (.int .i64 0), .v (.int .i64 0), .v (.string ⟨#[]⟩), .sl [], .sl [], .v (.int .i64 0), .v (.int .i64 0), .v (.string ⟨#[]⟩), .sl [], .sl []] 95 96) := by kernel_rfl
theorem F69_ok {x0 r : List Object} {i : Int} {x : Object} {e0 e1 : Nat} (h : insI x0 i x = some r) : CallD Try.prog 69 [.c (.own 0 e0 0 x0.length none), aI i, .c (.own 1 e1 0 [x].length none)] [some (.arr e0 23 (x0.map eObject)), some (.arr e1 23 ([x].map eObject))] (tupV [.c (.own 0 (e0 + 1) 0 r.length none)]) [some (.arr (e0 + 1) 23 (r.map eObject)), some (.arr e1 23 ([x].map eObject))] := L_insert a69_ok ov95 (fun _ => rfl) h

/- orchestrator/store.replay -/
def F45 (x0 : (List Object)) (x1 : Change) : Option ((List Object) × Bool) := (F33 x1.Object.Meta).bind fun t1 => (F51 x0 t1).bind fun t2 => (((if x1.Kind = 2 then some (nb t2.2) else some false)).bind fun o3 => (if o3 = true then some ((x0, false)) else (if x1.Kind = 2 then (delI x0 t2.1 ((IntKind.i64.wrap (t2.1 + 1)))).bind fun t7 => some ((t7, true)) else (if t2.2 = true then (rdI x0 t2.1).bind fun y9 => some (((x0.set t2.1.toNat x1.Object), true)) else (insI x0 t2.1 x1.Object).bind fun t10 => some ((t10, true))))))
def a45 : AFn := ⟨49, [(.tmp 4), (.tmp 5)],
 (.seq (.reg [sq 3 (.box (.t 1)),
sq 4 (.mv kN),
sq 5 (.mv (kB false))])
 (.seq (.reg [sq 9 (.mv (.t 0)),
sq 10 (.fieldA 2 (.t 3)),
sq 11 (.fieldA 0 (.t 10)),
sq 12 (.load (some 13) (.t 11)),
sq 13 (.call 33 [(.t 12)]),
sq 14 (.call 51 [(.t 9), (.t 13)]),
sq 8 (.mv (.t 14)),
sq 15 (.ext (.t 8) 0),
sq 16 (.ext (.t 8) 1),
sq 6 (.mv (.t 15)),
sq 7 (.mv (.t 16))])
 (.seq (.block 0 (.seq (.sem (.reg [sq 24 (.fieldA 1 (.t 3)),
sq 25 (.load none (.t 24)),
sq 26 (.bin .eql (.t 25) (kI 2)),
sq 27 (.mv (.t 26)),
⟨(some 28), (some (27, true)), .mv (.t 7), [], (.new [])⟩,
⟨(some 29), (some (27, true)), .not (.t 28), [], (.new [])⟩,
sq 30 (.pick (.t 27) (.t 29) (kB false)),
sq 23 (.mv (.t 30))]))
 (.cond (.t 23)
 (.seq (.reg [sq 31 (.mv (.t 0)),
sq 4 (.mv (.t 31)),
sq 5 (.mv (kB false))])
 .ret)
 (.seq (.reg [sq 33 (.fieldA 1 (.t 3)),
sq 34 (.load none (.t 33)),
sq 35 (.bin .eql (.t 34) (kI 2)),
sq 32 (.mv (.t 35))])
 (.cond (.t 32)
 (.seq (.reg [sq 36 (.mv (.t 0)),
sq 37 (.mv (.t 6)),
sq 38 (.mv (.t 6)),
sq 39 (.bin .add (.t 38) (kI 1)),
sq 40 (.call 68 [(.t 36), (.t 37), (.t 39)]),
sq 4 (.mv (.t 40)),
sq 5 (.mv (kB true))])
 .ret)
 (.seq (.reg [sq 42 (.mv (.t 7)),
sq 41 (.mv (.t 42))])
 (.cond (.t 41)
 (.reg [sq 43 (.mv (.t 0)),
sq 44 (.mv (.t 6)),
sq 45 (.fieldA 2 (.t 3)),
sq 46 (.load (some 23) (.t 45)),
sq 47 (.indexA 23 (.t 43) (.t 44)),
⟨none, none, .store 23 (.t 47) (.t 46), [], (.lone [3, 45, 43])⟩])
 (.reg [sq 17 (.mv (.t 0)),
sq 18 (.mv (.t 6)),
sq 19 (.fieldA 2 (.t 3)),
sq 20 (.load (some 23) (.t 19)),
sq 21 (.bslice 23 [(.t 20)]),
sq 22 (.call 69 [(.t 17), (.t 18), (.t 21)]),
sq 0 (.mv (.t 22))]))))))))
 (.seq (.reg [sq 48 (.mv (.t 0)),
sq 4 (.mv (.t 48)),
sq 5 (.mv (kB true))])
 .ret))))⟩
theorem a45_ok : afn Try.prog 45 = some a45.er := by kernel_rfl
theorem F45_ok {x0 : (List Object)} {x1 : Change} {r : (List Object) × Bool} {e0 : Nat} (h : F45 x0 x1 = some r) : CallD Try.prog 45 [.c (.own 0 e0 0 (x0.length) none), .agg [dI x1.Rev, dI x1.Kind, dS x1.Object.Meta.Kind, dS x1.Object.Meta.Namespace, dS x1.Object.Meta.Name, dI x1.Object.Meta.Uid, dI x1.Object.Meta.Version, dI x1.Object.Meta.Generation, dI x1.Object.Meta.Created, dB x1.Object.Meta.Deleting, dI x1.Object.Meta.DeleteAt, dM (x1.Object.Meta.Labels.map eLabel), dM (x1.Object.Meta.Owners.map eOwner), dM (x1.Object.Meta.Finalizers.map eS), dM (x1.Object.Meta.Managers.map eManager), dI x1.Object.Spec.Kind, dI x1.Object.Spec.N, dS x1.Object.Spec.S, dM (x1.Object.Spec.List_.map eTValue), dM (x1.Object.Spec.Fields.map eTField), dI x1.Object.Status.Kind, dI x1.Object.Status.N, dS x1.Object.Status.S, dM (x1.Object.Status.List_.map eTValue), dM (x1.Object.Status.Fields.map eTField)]] [some (.arr e0 23 (x0.map eObject))] (tupV [.c (.own 0 (e0 + 2) 0 (r.1.length) none), .c (dB r.2)]) [some (.arr (e0 + 2) 23 (r.1.map eObject))] := by
 refine callS a45_ok (by simp [a45]) ?_
 rw [F45] at h
 simp only [a45, VW.down, Nat.reduceEqDiff, reduceCtorEq, Nat.reduceAdd, Nat.reduceLeDiff, Nat.reduceLT, Nat.reduceBEq, Nat.reduceSub, EE.down]
 obtain ⟨t1, ht1, h⟩ := bi h
 refine cN [] (F33_ok ht1) trivial ?_
 refine ww ?_
 obtain ⟨t2, ht2, h⟩ := bi h
 refine callX_bor (F51_ok ht2) (by simp only [borAs, bors, hp, List.getElem?_cons_zero, List.getElem?_cons_succ, Option.join_some, List.drop_zero, bor_full', true_and, Nat.zero_add, List.length_map, Nat.le_refl, nrm, List.length_cons, List.length_nil, Nat.reduceAdd, Nat.reduceLeDiff, List.take_succ_cons, List.take_zero, List.take_nil, List.map_cons, List.map_nil, List.length_set, EE.down]) rfl ?_
 refine ww ?_
 obtain ⟨o3, ho, h⟩ := bi h
 refine cutS (fun s => s = ⟨[(0, .one (.c (.own 0 e0 0 (x0.length) none))), (3, .one (.c (.pt 1 0))), (6, .one (.c (dI t2.1))), (7, .one (.c (dB t2.2))), (23, .one (.c (dB o3)))], [some (.arr e0 23 (x0.map eObject)), some (.box [dI x1.Rev, dI x1.Kind, dS x1.Object.Meta.Kind, dS x1.Object.Meta.Namespace, dS x1.Object.Meta.Name, dI x1.Object.Meta.Uid, dI x1.Object.Meta.Version, dI x1.Object.Meta.Generation, dI x1.Object.Meta.Created, dB x1.Object.Meta.Deleting, dI x1.Object.Meta.DeleteAt, dM (x1.Object.Meta.Labels.map eLabel), dM (x1.Object.Meta.Owners.map eOwner), dM (x1.Object.Meta.Finalizers.map eS), dM (x1.Object.Meta.Managers.map eManager), dI x1.Object.Spec.Kind, dI x1.Object.Spec.N, dS x1.Object.Spec.S, dM (x1.Object.Spec.List_.map eTValue), dM (x1.Object.Spec.Fields.map eTField), dI x1.Object.Status.Kind, dI x1.Object.Status.N, dS x1.Object.Status.S, dM (x1.Object.Status.List_.map eTValue), dM (x1.Object.Status.Fields.map eTField)])]⟩) ?_ ?_
 ·have h := ho
  clear ho
  refine ww ?_
  refine guardSh h (fun g4 h => ?_) (fun g4 h => ?_)
  ·refine ww ?_
   cases h
   exact eM [some 0, some 1] rfl
  ·refine ww ?_
   cases h
   exact eM [some 0, some 1] rfl
 ·rintro _ rfl
  clear ho
  refine ww ?_
  refine condBh h (fun c5 h => ?_) (fun c5 h => ?_)
  ·refine ww ?_
   cases h
   exact eF [some 0]
  ·refine ww ?_
   refine condSh h (fun c6 h => ?_) (fun c6 h => ?_)
   ·refine ww ?_
    obtain ⟨t7, ht7, h⟩ := bi h
    refine cN [0] (F68_ok (e0 := e0) ht7) ⟨⟨rfl, trivial⟩, trivial⟩ ?_
    refine ww ?_
    cases h
    exact eF [some 0]
   ·refine ww ?_
    refine condBh h (fun c8 h => ?_) (fun c8 h => ?_)
    ·refine ww ?_
     obtain ⟨y9, hy9, h⟩ := bi h
     refine t_idxO (enc := eObject) (xs := x0) rfl rfl rfl (by first | rfl | simp only [List.length_set] | exact (clrL_len (slI_len (by assumption))).symm) hy9 ?_
     refine ww ?_
     refine StRow.rd (y' := x1.Object) (rdI_some hy9).2.1 (by simp [EE.down]) (by first | rfl | (simp only [bor_full']; rfl)) ?_
     refine ww ?_
     cases h
     exact eF [some 0]
    ·refine ww ?_
     refine t_bslice (enc := eObject) (ys := [x1.Object]) rfl rfl (by simp [A1.cells]) (by first | rfl | (simp only [List.drop_zero, take_mapL]; rfl) | (simp only [lit, List.map_cons, List.map_nil, List.drop_zero, take_mapL, EE.down]; done) | (simp only [lit, List.map_cons, List.map_nil, List.drop_zero, take_mapL, EE.down]; rfl)) ?_
     refine ww ?_
     obtain ⟨t10, ht10, h⟩ := bi h
     refine cN [0, 2] (F69_ok (e0 := e0) (e1 := 0) ht10) ⟨⟨rfl, trivial⟩, ⟨⟨rfl, trivial⟩, trivial⟩⟩ ?_
     refine ww ?_
     cases h
     exact eF [some 0]

/- orchestrator/store.at -/
def F48_l3  : List Change → Nat → (List Object) → Option ((List Object))
  | [], o3_1, o3_0 => some o3_0
  | xo3 :: xs, o3_1, o3_0 => (F45 o3_0 xo3).bind fun t5 => F48_l3  xs (o3_1 + 1) t5.1
def F48 (x0 : TStore) (x1 : Int) : Option ((List Object)) := (cloneI x0.Base).bind fun t1 => (slI x0.History 0 ((IntKind.i64.wrap (x1 - x0.Floor)))).bind fun s2 => (((ck (0 ≤ s2.length ∧ s2.length ≤ 4294967290)).bind fun u6 => F48_l3 s2 0 t1).bind fun o3 => some o3)
def a48 : AFn := ⟨31, [(.tmp 4)],
 (.seq (.reg [sq 2 (.box (.t 0)),
sq 4 (.mv kN)])
 (.seq (.reg [sq 8 (.fieldA 3 (.t 2)),
sq 9 (.load none (.t 8)),
sq 10 (.call 44 [(.t 9)]),
sq 5 (.mv (.t 10))])
 (.seq (.seq (.reg [sq 11 (.fieldA 5 (.t 2)),
sq 12 (.load none (.t 11)),
sq 13 (.mv (.t 1)),
sq 14 (.fieldA 1 (.t 2)),
sq 15 (.load none (.t 14)),
sq 16 (.bin .sub (.t 13) (.t 15)),
sq 17 (.slice 25 (.t 12) none (some (.t 16)) none),
sq 18 (.len (.t 17)),
sq 19 (.mv (kI 0))])
 (.sem (.block 0 (.loop (.seq (.reg [sq 20 (.bin .lss (.t 19) (.t 18))])
 (.seq (.cond (.t 20)
 .skip
 (.exit 0))
 (.seq (.block 1 (.seq (.reg [sq 21 (.indexA 25 (.t 17) (.t 19)),
sq 22 (.load (some 25) (.t 21)),
sq 7 (.zbox [dI 0, dI 0, dS ⟨#[]⟩, dS ⟨#[]⟩, dS ⟨#[]⟩, dI 0, dI 0, dI 0, dI 0, dB false, dI 0, dN, dN, dN, dN, dI 0, dI 0, dS ⟨#[]⟩, dN, dN, dI 0, dI 0, dS ⟨#[]⟩, dN, dN]),
su (.store 25 (.t 7) (.t 22))])
 (.reg [sq 24 (.mv (.t 5)),
sq 25 (.load (some 25) (.t 7)),
sq 26 (.call 45 [(.t 24), (.t 25)]),
sq 23 (.mv (.t 26)),
sq 27 (.ext (.t 23) 0),
sq 28 (.ext (.t 23) 1),
sq 5 (.mv (.t 27))])))
 (.reg [sq 29 (.bin .add (.t 19) (kI 1)),
sq 19 (.mv (.t 29))]))))))))
 (.seq (.reg [sq 30 (.mv (.t 5)),
sq 4 (.mv (.t 30))])
 .ret))))⟩
theorem a48_ok : afn Try.prog 48 = some a48.er := by kernel_rfl
theorem F48_ok {x0 : TStore} {x1 : Int} {r : (List Object)} (h : F48 x0 x1 = some r) : CallD Try.prog 48 [.agg [dI x0.Rev, dI x0.Floor, dI x0.NextUid, dM (x0.Base.map eObject), dM (x0.Objects.map eObject), dM (x0.History.map eChange)], .c (dI x1)] [] (tupV [.c (.own 0 0 0 (r.length) none)]) [some (.arr 0 23 (r.map eObject))] := by
 refine callS a48_ok (by simp [a48]) ?_
 rw [F48] at h
 simp only [a48, VW.down, Nat.reduceEqDiff, reduceCtorEq, Nat.reduceAdd, Nat.reduceLeDiff, Nat.reduceLT, Nat.reduceBEq, Nat.reduceSub, EE.down]
 obtain ⟨t1, ht1, h⟩ := bi h
 refine cN [] (F44_ok ht1) trivial ?_
 refine ww ?_
 obtain ⟨s2, hs2, h⟩ := bi h
 refine t_slice (enc := eChange) (xs := x0.History) rfl rfl rfl (fun _ => rfl) hs2 ?_
 refine ww ?_
 obtain ⟨o3, ho, h⟩ := bi h
 refine cutS (fun s => s = ⟨[(5, .one (.c (.own 0 0 0 (o3.length) none)))], [some (.arr 0 23 (o3.map eObject))]⟩) ?_ ?_
 ·have h := ho
  clear ho
  obtain ⟨_, hk, h⟩ := bi h
  have hk := ck_some hk
  refine ww ?_
  refine bL (fun j s => ∃ (o3_1 : Nat) (o3_0 : List Object), (o3_1 ≤ s2.length ∧ j = s2.length - o3_1) ∧ s = ⟨[(5, .one (.c (.own 0 0 0 (o3_0.length) none))), (17, .one (.c (dM (s2.map eChange)))), (18, .one (.c (dI ((s2.length : Int))))), (19, .one (.c (dI ((o3_1 : Int)))))], [some (.arr 0 23 (o3_0.map eObject))]⟩ ∧ F48_l3 (s2.drop o3_1) o3_1 o3_0 = some o3) (s2.length - 0) [some 1] ⟨0, t1, ⟨hk.1, rfl⟩, rfl, h⟩ ?_
  rintro _ _ ⟨o3_1, o3_0, ⟨hi, rfl⟩, rfl, h⟩
  refine ww ?_
  refine condS (fun c4 => ?_) (fun c4 => ?_)
  ·obtain ⟨xo3, hxo3, hd⟩ := countY (show (o3_1 : Int) < (s2.length : Int) from c4)
   rw [hd, F48_l3] at h
   refine ww ?_
   refine t_idxF (enc := eChange) (xs := s2) rfl rfl hxo3 rfl ?_
   refine ww ?_
   obtain ⟨t5, ht5, h⟩ := bi h
   refine cN [0] (F45_ok (e0 := 0) ht5) ⟨⟨rfl, trivial⟩, trivial⟩ ?_
   refine ww ?_
   rw [wrapN (by omega)]
   exact eL' (s2.length - (o3_1 + 1)) [some 0] ⟨o3_1 + 1, t5.1, ⟨by omega, rfl⟩, rfl, h⟩ (by omega)
  ·rw [countN (show ¬ ((o3_1 : Int) < (s2.length : Int)) from c4), F48_l3] at h
   refine ww ?_
   cases h
   exact eM [some 0] rfl
 ·rintro _ rfl
  clear ho
  refine ww ?_
  cases h
  exact eF [some 0]

/- orchestrator/store.compacted -/
def F49 (x0 : TStore) (x1 : Int) : Option ((List Object) × ((List Change))) := (F48 x0 x1).bind fun t1 => (slI x0.History ((IntKind.i64.wrap (x1 - x0.Floor))) ((x0.History.length : Int))).bind fun s2 => some ((t1, s2))
def a49 : AFn := ⟨20, [(.cell 4 (some 6))],
 (.seq (.reg [sq 2 (.box (.t 0)),
sq 4 (.zbox [dI 0, dI 0, dI 0, dN, dN, dN])])
 (.seq (.regd [sq 5 (.load (some 6) (.t 2)),
sq 6 (.mv (.t 1)),
⟨(some 7), none, .call 48 [(.t 5), (.t 6)], [0, 1], (.new [0, 1])⟩,
sq 8 (.fieldA 5 (.t 2)),
sd 9 (.load none (.t 8)) [3],
sq 10 (.mv (.t 1)),
sq 11 (.fieldA 1 (.t 2)),
sd 12 (.load none (.t 11)) [6],
sd 13 (.bin .sub (.t 10) (.t 12)) [5, 6, 7],
sd 14 (.slice 25 (.t 9) (some (.t 13)) none none) [3, 4, 5, 6, 7, 8],
sq 15 (.mv (.t 1)),
sd 16 (.fieldA 3 (.t 2)) [0, 1, 2, 3, 4, 6, 7],
⟨none, none, .store 1 (.t 16) (.t 7), [0, 1, 2, 3, 4, 6, 7, 11], (.lone [9])⟩,
sd 17 (.fieldA 5 (.t 2)) [0, 1, 2, 3, 4, 5, 6, 7, 8, 9, 11, 12],
⟨none, none, .store 1 (.t 17) (.t 14), [0, 1, 2, 3, 4, 5, 6, 7, 8, 9, 11, 12, 13], (.lone [])⟩,
sd 18 (.fieldA 1 (.t 2)) [0, 1, 2, 3, 4, 5, 6, 7, 8, 9, 10, 11, 12, 13, 14],
⟨none, none, .store 1 (.t 18) (.t 15), [0, 1, 2, 3, 4, 5, 6, 7, 8, 9, 10, 11, 12, 13, 14, 15], (.lone [])⟩])
 (.seq (.reg [sq 19 (.load (some 6) (.t 2)),
⟨none, none, .store 6 (.t 4) (.t 19), [], (.lone [2])⟩])
 .ret)))⟩
theorem a49_ok : afn Try.prog 49 = some a49.er := by kernel_rfl
theorem F49_ok {x0 : TStore} {x1 : Int} {r : (List Object) × ((List Change))} (h : F49 x0 x1 = some r) : CallD Try.prog 49 [.agg [dI x0.Rev, dI x0.Floor, dI x0.NextUid, dM (x0.Base.map eObject), dM (x0.Objects.map eObject), dM (x0.History.map eChange)], .c (dI x1)] [] (tupV [.agg [dI x0.Rev, dI x1, dI x0.NextUid, .own 0 0 0 (r.1.length) none, dM (x0.Objects.map eObject), dM (r.2.map eChange)]]) [some (.arr 0 23 (r.1.map eObject))] := by
 refine callS a49_ok (by simp [a49]) ?_
 rw [F49] at h
 simp only [a49, VW.down, Nat.reduceEqDiff, reduceCtorEq, Nat.reduceAdd, Nat.reduceLeDiff, Nat.reduceLT, Nat.reduceBEq, Nat.reduceSub, EE.down]
 obtain ⟨t1, ht1, h⟩ := bi h
 refine cN [] (F48_ok ht1) trivial ?_
 refine ww ?_
 refine kD_new (by simp [wrs, allW, hset]) ?_
 refine ww ?_
 obtain ⟨s2, hs2, h⟩ := bi h
 refine t_slice (enc := eChange) (xs := x0.History) rfl rfl rfl (fun _ => rfl) hs2 ?_
 refine ww ?_
 cases h
 exact eF [some 2]

/- orchestrator/store.commit -/
def F36 (x0 : TStore) (x1 : Int) (x2 : Object) : Option (Int × Int × (List Object) × (List Object) × (List Change)) := (F32 x0).bind fun t1 => (F34 x2).bind fun t2 => (F34 x2).bind fun t3 => (F45 t1.2.1 ((⟨(IntKind.i64.wrap (x0.Rev + 1)), x1, (⟨(⟨x2.Meta.Kind, x2.Meta.Namespace, x2.Meta.Name, x2.Meta.Uid, x2.Meta.Version, x2.Meta.Generation, x2.Meta.Created, x2.Meta.Deleting, x2.Meta.DeleteAt, t3.1, t3.2.1, t3.2.2.1, t3.2.2.2.1⟩ : Meta), (⟨t3.2.2.2.2.1, t3.2.2.2.2.2.1, t3.2.2.2.2.2.2.1, t3.2.2.2.2.2.2.2.1, t3.2.2.2.2.2.2.2.2.1⟩ : TValue), (⟨t3.2.2.2.2.2.2.2.2.2.1, t3.2.2.2.2.2.2.2.2.2.2.1, t3.2.2.2.2.2.2.2.2.2.2.2.1, t3.2.2.2.2.2.2.2.2.2.2.2.2.1, t3.2.2.2.2.2.2.2.2.2.2.2.2.2⟩ : TValue)⟩ : Object)⟩ : Change))).bind fun t4 => (apI t1.2.2 ([(⟨(IntKind.i64.wrap (x0.Rev + 1)), x1, (⟨(⟨x2.Meta.Kind, x2.Meta.Namespace, x2.Meta.Name, x2.Meta.Uid, x2.Meta.Version, x2.Meta.Generation, x2.Meta.Created, x2.Meta.Deleting, x2.Meta.DeleteAt, t2.1, t2.2.1, t2.2.2.1, t2.2.2.2.1⟩ : Meta), (⟨t2.2.2.2.2.1, t2.2.2.2.2.2.1, t2.2.2.2.2.2.2.1, t2.2.2.2.2.2.2.2.1, t2.2.2.2.2.2.2.2.2.1⟩ : TValue), (⟨t2.2.2.2.2.2.2.2.2.2.1, t2.2.2.2.2.2.2.2.2.2.2.1, t2.2.2.2.2.2.2.2.2.2.2.2.1, t2.2.2.2.2.2.2.2.2.2.2.2.2.1, t2.2.2.2.2.2.2.2.2.2.2.2.2.2⟩ : TValue)⟩ : Object)⟩ : Change)])).bind fun a5 => (if 4000 < (a5.length : Int) then (F49 ((⟨(IntKind.i64.wrap (x0.Rev + 1)), x0.Floor, x0.NextUid, t1.1, t4.1, a5⟩ : TStore)) ((IntKind.i64.wrap (x0.Floor + 1)))).bind fun t7 => (F32 ((⟨((IntKind.i64.wrap (x0.Rev + 1))), ((IntKind.i64.wrap (x0.Floor + 1))), x0.NextUid, t7.1, t4.1, t7.2⟩ : TStore))).bind fun t8 => some (((((IntKind.i64.wrap (x0.Rev + 1)))), (((IntKind.i64.wrap (x0.Floor + 1)))), t8.1, t8.2.1, t8.2.2)) else some (((IntKind.i64.wrap (x0.Rev + 1)), x0.Floor, t1.1, t4.1, a5)))
def a36 : AFn := ⟨50, [(.cell 6 (some 6))],
 (.seq (.reg [sq 3 (.box (.t 0)),
sq 5 (.box (.t 2)),
sq 6 (.zbox [dI 0, dI 0, dI 0, dN, dN, dN])])
 (.seq (.reg [sq 8 (.load (some 6) (.t 3)),
sq 9 (.call 32 [(.t 8)]),
su (.store 6 (.t 3) (.t 9))])
 (.seq (.reg [sq 10 (.fieldA 0 (.t 3)),
sq 11 (.load none (.t 10)),
sq 12 (.bin .add (.t 11) (kI 1)),
sq 13 (.fieldA 0 (.t 3)),
⟨none, none, .store 1 (.t 13) (.t 12), [], (.lone [3, 10, 3])⟩])
 (.seq (.regd [sq 14 (.fieldA 0 (.t 3)),
sd 15 (.load none (.t 14)) [0],
sq 16 (.mv (.t 1)),
sq 17 (.load (some 23) (.t 5)),
⟨(some 18), none, .call 34 [(.t 17)], [3], (.new [3])⟩,
sd 19 (.build [dI 0, dI 0, dS ⟨#[]⟩, dS ⟨#[]⟩, dS ⟨#[]⟩, dI 0, dI 0, dI 0, dI 0, dB false, dI 0, dN, dN, dN, dN, dI 0, dI 0, dS ⟨#[]⟩, dN, dN, dI 0, dI 0, dS ⟨#[]⟩, dN, dN] [(0, 1, (.t 15)), (1, 1, (.t 16)), (2, 23, (.t 18))]) [0, 1, 2, 3, 4],
sq 7 (.zbox [dI 0, dI 0, dS ⟨#[]⟩, dS ⟨#[]⟩, dS ⟨#[]⟩, dI 0, dI 0, dI 0, dI 0, dB false, dI 0, dN, dN, dN, dN, dI 0, dI 0, dS ⟨#[]⟩, dN, dN, dI 0, dI 0, dS ⟨#[]⟩, dN, dN]),
⟨none, none, .store 25 (.t 7) (.t 19), [0, 1, 2, 3, 4, 5, 6], (.lone [])⟩])
 (.seq (.regd [sq 21 (.fieldA 4 (.t 3)),
sd 22 (.load none (.t 21)) [0],
sq 23 (.fieldA 0 (.t 3)),
sd 24 (.load none (.t 23)) [2],
sq 25 (.mv (.t 1)),
sq 26 (.load (some 23) (.t 5)),
⟨(some 27), none, .call 34 [(.t 26)], [5], (.lone [3, 21, 3, 23])⟩,
⟨(some 28), none, .build [dI 0, dI 0, dS ⟨#[]⟩, dS ⟨#[]⟩, dS ⟨#[]⟩, dI 0, dI 0, dI 0, dI 0, dB false, dI 0, dN, dN, dN, dN, dI 0, dI 0, dS ⟨#[]⟩, dN, dN, dI 0, dI 0, dS ⟨#[]⟩, dN, dN] [(0, 1, (.t 24)), (1, 1, (.t 25)), (2, 23, (.t 27))], [2, 3, 4, 5, 6], (.lone [3, 21])⟩,
⟨(some 29), none, .call 45 [(.t 22), (.t 28)], [0, 1, 2, 3, 4, 5, 6, 7], (.lone [])⟩,
sd 20 (.mv (.t 29)) [0, 1, 2, 3, 4, 5, 6, 7, 8],
sd 30 (.ext (.t 20) 0) [0, 1, 2, 3, 4, 5, 6, 7, 8, 9],
sd 31 (.ext (.t 20) 1) [0, 1, 2, 3, 4, 5, 6, 7, 8, 9],
sd 32 (.fieldA 4 (.t 3)) [0, 1, 2, 3, 4, 5, 6, 7, 8, 9, 10],
⟨none, none, .store 1 (.t 32) (.t 30), [0, 1, 2, 3, 4, 5, 6, 7, 8, 9, 10, 12], (.lone [])⟩])
 (.seq (.reg [sq 33 (.fieldA 5 (.t 3)),
sq 34 (.load none (.t 33)),
sq 35 (.load (some 25) (.t 7)),
sq 36 (.bslice 25 [(.t 35)]),
sq 37 (.app 25 368 (.t 34) (.t 36)),
sq 38 (.fieldA 5 (.t 3)),
su (.store 1 (.t 38) (.t 37))])
 (.seq (.seq (.reg [sq 39 (.fieldA 5 (.t 3)),
sq 40 (.load none (.t 39)),
sq 41 (.len (.t 40)),
sq 42 (.bin .gtr (.t 41) (kI 4000))])
 (.cond (.t 42)
 (.reg [sq 43 (.load (some 6) (.t 3)),
sq 44 (.fieldA 1 (.t 3)),
sq 45 (.load none (.t 44)),
sq 46 (.bin .add (.t 45) (kI 1)),
sq 47 (.call 49 [(.t 43), (.t 46)]),
sq 48 (.call 32 [(.t 47)]),
su (.store 6 (.t 3) (.t 48))])
 .skip))
 (.seq (.reg [sq 49 (.load (some 6) (.t 3)),
⟨none, none, .store 6 (.t 6) (.t 49), [], (.lone [3])⟩])
 .ret))))))))⟩
theorem a36_ok : afn Try.prog 36 = some a36.er := by kernel_rfl
theorem F36_ok {x0 : TStore} {x1 : Int} {x2 : Object} {r : Int × Int × (List Object) × (List Object) × (List Change)} (h : F36 x0 x1 x2 = some r) : CallD Try.prog 36 [.agg [dI x0.Rev, dI x0.Floor, dI x0.NextUid, dM (x0.Base.map eObject), dM (x0.Objects.map eObject), dM (x0.History.map eChange)], .c (dI x1), .agg [dS x2.Meta.Kind, dS x2.Meta.Namespace, dS x2.Meta.Name, dI x2.Meta.Uid, dI x2.Meta.Version, dI x2.Meta.Generation, dI x2.Meta.Created, dB x2.Meta.Deleting, dI x2.Meta.DeleteAt, dM (x2.Meta.Labels.map eLabel), dM (x2.Meta.Owners.map eOwner), dM (x2.Meta.Finalizers.map eS), dM (x2.Meta.Managers.map eManager), dI x2.Spec.Kind, dI x2.Spec.N, dS x2.Spec.S, dM (x2.Spec.List_.map eTValue), dM (x2.Spec.Fields.map eTField), dI x2.Status.Kind, dI x2.Status.N, dS x2.Status.S, dM (x2.Status.List_.map eTValue), dM (x2.Status.Fields.map eTField)]] [] (tupV [.agg [dI r.1, dI r.2.1, dI x0.NextUid, .own 0 0 0 (r.2.2.1.length) none, .own 1 0 0 (r.2.2.2.1.length) none, .own 2 0 0 (r.2.2.2.2.length) none]]) [some (.arr 0 23 (r.2.2.1.map eObject)), some (.arr 0 23 (r.2.2.2.1.map eObject)), some (.arr 0 25 (r.2.2.2.2.map eChange))] := by
 refine callS a36_ok (by simp [a36]) ?_
 rw [F36] at h
 simp only [a36, VW.down, Nat.reduceEqDiff, reduceCtorEq, Nat.reduceAdd, Nat.reduceLeDiff, Nat.reduceLT, Nat.reduceBEq, Nat.reduceSub, EE.down]
 obtain ⟨t1, ht1, h⟩ := bi h
 refine cN [] (F32_ok ht1) trivial ?_
 refine ww ?_
 obtain ⟨t2, ht2, h⟩ := bi h
 refine cN [] (F34_ok ht2) trivial ?_
 refine ww ?_
 refine kD_new (by simp [wrs, allW, hset]) ?_
 refine ww ?_
 refine kD_new (by simp [wrs, allW, hset]) ?_
 refine ww ?_
 obtain ⟨t3, ht3, h⟩ := bi h
 refine cN [] (F34_ok ht3) trivial ?_
 refine ww ?_
 obtain ⟨t4, ht4, h⟩ := bi h
 refine callX_gen (as1 := [.c (.own 4 0 0 (t1.2.1.length) none), .agg [dI ((IntKind.i64.wrap (x0.Rev + 1))), dI x1, dS x2.Meta.Kind, dS x2.Meta.Namespace, dS x2.Meta.Name, dI x2.Meta.Uid, dI x2.Meta.Version, dI x2.Meta.Generation, dI x2.Meta.Created, dB x2.Meta.Deleting, dI x2.Meta.DeleteAt, dM (t3.1.map eLabel), dM (t3.2.1.map eOwner), dM (t3.2.2.1.map eS), dM (t3.2.2.2.1.map eManager), dI t3.2.2.2.2.1, dI t3.2.2.2.2.2.1, dS t3.2.2.2.2.2.2.1, dM (t3.2.2.2.2.2.2.2.1.map eTValue), dM (t3.2.2.2.2.2.2.2.2.1.map eTField), dI t3.2.2.2.2.2.2.2.2.2.1, dI t3.2.2.2.2.2.2.2.2.2.2.1, dS t3.2.2.2.2.2.2.2.2.2.2.2.1, dM (t3.2.2.2.2.2.2.2.2.2.2.2.2.1.map eTValue), dM (t3.2.2.2.2.2.2.2.2.2.2.2.2.2.map eTField)]]) [(11, .arr 1 2 []), (12, .arr 1 5 []), (13, .arr 1 1 []), (14, .arr 1 2 [])] [some 0, some 1, some 2, some 3, some 4, some 5, some 6, some 7, some 8, some 9, some 10, none, none, none, none] [4] (F45_ok (e0 := 0) ht4) ⟨?_, rfl, ?_⟩ ?_ ?_ ?_ ?_ ?_ ?_ ?_ ?_
 · simp only [ZZ.down, Nat.reduceEqDiff, reduceCtorEq, Nat.reduceAdd, Nat.reduceLeDiff, Nat.reduceLT, Nat.reduceBNe, EE.down]
 · simp only [ZZ.down, Nat.reduceEqDiff, reduceCtorEq, Nat.reduceAdd, Nat.reduceLeDiff, Nat.reduceLT, Nat.reduceBNe, EE.down]
 · simp only [ZZ.down, Nat.reduceEqDiff, reduceCtorEq, Nat.reduceAdd, Nat.reduceLeDiff, Nat.reduceLT, Nat.reduceBNe, EE.down]
 · rfl
 · rfl
 · simp [liveAll, A1.live, C.live, hp]
 · rfl
 · decide
 · exact ⟨⟨rfl, trivial⟩, trivial⟩
 refine ww ?_
 refine t_bslice (enc := eChange) (ys := [(⟨(IntKind.i64.wrap (x0.Rev + 1)), x1, (⟨(⟨x2.Meta.Kind, x2.Meta.Namespace, x2.Meta.Name, x2.Meta.Uid, x2.Meta.Version, x2.Meta.Generation, x2.Meta.Created, x2.Meta.Deleting, x2.Meta.DeleteAt, t2.1, t2.2.1, t2.2.2.1, t2.2.2.2.1⟩ : Meta), (⟨t2.2.2.2.2.1, t2.2.2.2.2.2.1, t2.2.2.2.2.2.2.1, t2.2.2.2.2.2.2.2.1, t2.2.2.2.2.2.2.2.2.1⟩ : TValue), (⟨t2.2.2.2.2.2.2.2.2.2.1, t2.2.2.2.2.2.2.2.2.2.2.1, t2.2.2.2.2.2.2.2.2.2.2.2.1, t2.2.2.2.2.2.2.2.2.2.2.2.2.1, t2.2.2.2.2.2.2.2.2.2.2.2.2.2⟩ : TValue)⟩ : Object)⟩ : Change)]) rfl rfl (by simp [A1.cells]) (by first | rfl | (simp only [List.drop_zero, take_mapL]; rfl) | (simp only [lit, List.map_cons, List.map_nil, List.drop_zero, take_mapL, EE.down]; done) | (simp only [lit, List.map_cons, List.map_nil, List.drop_zero, take_mapL, EE.down]; rfl)) ?_
 refine ww ?_
 obtain ⟨a5, ha5, h⟩ := bi h
 refine t_app (enc := eChange) (xs := t1.2.2) rfl rfl (by first | rfl | simp only [List.length_set] | exact (clrL_len (slI_len (by assumption))).symm) rfl (rows_full (enc := eChange) (by first | rfl | simp only [List.length_set] | exact (clrL_len (slI_len (by assumption))).symm) rfl) ha5 ?_
 refine ww ?_
 refine condSh h (fun c6 h => ?_) (fun c6 h => ?_)
 ·refine ww ?_
  obtain ⟨t7, ht7, h⟩ := bi h
  refine callX_gen (as1 := [.agg [dI ((IntKind.i64.wrap (x0.Rev + 1))), dI x0.Floor, dI x0.NextUid, dM (t1.1.map eObject), dM (t4.1.map eObject), dM (a5.map eChange)], .c (dI ((IntKind.i64.wrap (x0.Floor + 1))))]) [(3, .arr 1 23 []), (4, .arr 3 23 []), (5, .arr 2 25 []), (0, .box [dI ((IntKind.i64.wrap (x0.Rev + 1))), dI x0.Floor, dI x0.NextUid, .own 3 0 0 0 (some 0), .own 4 2 0 0 (some 0), .own 5 1 0 0 (some 0)]), (10, .box [dI ((IntKind.i64.wrap (x0.Rev + 1))), dI x1, dS x2.Meta.Kind, dS x2.Meta.Namespace, dS x2.Meta.Name, dI x2.Meta.Uid, dI x2.Meta.Version, dI x2.Meta.Generation, dI x2.Meta.Created, dB x2.Meta.Deleting, dI x2.Meta.DeleteAt, .own 6 0 0 0 (some 0), .own 7 0 0 0 (some 0), .own 8 0 0 0 (some 0), .own 9 0 0 0 (some 0), dI t2.2.2.2.2.1, dI t2.2.2.2.2.2.1, dS t2.2.2.2.2.2.2.1, dM (t2.2.2.2.2.2.2.2.1.map eTValue), dM (t2.2.2.2.2.2.2.2.2.1.map eTField), dI t2.2.2.2.2.2.2.2.2.2.1, dI t2.2.2.2.2.2.2.2.2.2.2.1, dS t2.2.2.2.2.2.2.2.2.2.2.2.1, dM (t2.2.2.2.2.2.2.2.2.2.2.2.2.1.map eTValue), dM (t2.2.2.2.2.2.2.2.2.2.2.2.2.2.map eTField)])] [some 0, some 1, some 2, none, none, none, some 6, some 7, some 8, some 9, some 10, some 11, some 12, some 13, some 14, some 15] [] (F49_ok ht7) ⟨?_, rfl, ?_⟩ ?_ ?_ ?_ ?_ ?_ ?_ ?_ ?_
  · simp only [ZZ.down, Nat.reduceEqDiff, reduceCtorEq, Nat.reduceAdd, Nat.reduceLeDiff, Nat.reduceLT, Nat.reduceBNe, EE.down]
  · simp only [ZZ.down, Nat.reduceEqDiff, reduceCtorEq, Nat.reduceAdd, Nat.reduceLeDiff, Nat.reduceLT, Nat.reduceBNe, EE.down]
  · simp only [ZZ.down, Nat.reduceEqDiff, reduceCtorEq, Nat.reduceAdd, Nat.reduceLeDiff, Nat.reduceLT, Nat.reduceBNe, EE.down]
  · rfl
  · rfl
  · simp [liveAll, A1.live, C.live]
  · rfl
  · decide
  · exact trivial
  refine ww ?_
  obtain ⟨t8, ht8, h⟩ := bi h
  refine callX_gen (as1 := [.agg [dI (((IntKind.i64.wrap (x0.Rev + 1)))), dI (((IntKind.i64.wrap (x0.Floor + 1)))), dI x0.NextUid, dM (t7.1.map eObject), dM (t4.1.map eObject), dM (t7.2.map eChange)]]) [(16, .arr 1 23 [])] [some 0, some 1, some 2, some 3, some 4, some 5, some 6, some 7, some 8, some 9, some 10, some 11, some 12, some 13, some 14, some 15, none] [] (F32_ok ht8) ⟨?_, rfl, ?_⟩ ?_ ?_ ?_ ?_ ?_ ?_ ?_ ?_
  · simp only [ZZ.down, Nat.reduceEqDiff, reduceCtorEq, Nat.reduceAdd, Nat.reduceLeDiff, Nat.reduceLT, Nat.reduceBNe, EE.down]
  · simp only [ZZ.down, Nat.reduceEqDiff, reduceCtorEq, Nat.reduceAdd, Nat.reduceLeDiff, Nat.reduceLT, Nat.reduceBNe, EE.down]
  · simp only [ZZ.down, Nat.reduceEqDiff, reduceCtorEq, Nat.reduceAdd, Nat.reduceLeDiff, Nat.reduceLT, Nat.reduceBNe, EE.down]
  · rfl
  · rfl
  · simp [liveAll, A1.live, C.live]
  · rfl
  · decide
  · exact trivial
  refine ww ?_
  cases h
  exact eF [some 17, some 18, some 19]
 ·refine ww ?_
  cases h
  exact eF [some 3, some 4, some 5]

/- orchestrator/store.Create -/
def F25 (x0 : TStore) (x1 : Object) (x2 : Int) : Option (Int × Int × Int × (List Object) × (List Object) × (List Change) × Object × Int) := (F33 x1.Meta).bind fun t1 => (F51 x0.Objects t1).bind fun t2 => (((F31 x1).bind fun t4 => (if (nb t4) = true then some true else (if x2 < 0 then some true else some (decide (1000000000000 < x2))))).bind fun o3 => (if o3 = true then (F32 x0).bind fun t8 => some ((x0.Rev, x0.Floor, x0.NextUid, t8.1, t8.2.1, t8.2.2, (⟨(⟨(⟨#[]⟩ : ByteArray), (⟨#[]⟩ : ByteArray), (⟨#[]⟩ : ByteArray), 0, 0, 0, 0, false, 0, [], [], [], []⟩ : Meta), (⟨0, 0, (⟨#[]⟩ : ByteArray), [], []⟩ : TValue), (⟨0, 0, (⟨#[]⟩ : ByteArray), [], []⟩ : TValue)⟩ : Object), 1)) else (if t2.2 = true then (F32 x0).bind fun t10 => some ((x0.Rev, x0.Floor, x0.NextUid, t10.1, t10.2.1, t10.2.2, (⟨(⟨(⟨#[]⟩ : ByteArray), (⟨#[]⟩ : ByteArray), (⟨#[]⟩ : ByteArray), 0, 0, 0, 0, false, 0, [], [], [], []⟩ : Meta), (⟨0, 0, (⟨#[]⟩ : ByteArray), [], []⟩ : TValue), (⟨0, 0, (⟨#[]⟩ : ByteArray), [], []⟩ : TValue)⟩ : Object), 8)) else (((if 500 ≤ (x0.Objects.length : Int) then some true else (if 1000000000000000 ≤ x0.Rev then some true else some (decide (1000000000000000 ≤ x0.NextUid))))).bind fun o11 => (if o11 = true then (F32 x0).bind fun t15 => some ((x0.Rev, x0.Floor, x0.NextUid, t15.1, t15.2.1, t15.2.2, (⟨(⟨(⟨#[]⟩ : ByteArray), (⟨#[]⟩ : ByteArray), (⟨#[]⟩ : ByteArray), 0, 0, 0, 0, false, 0, [], [], [], []⟩ : Meta), (⟨0, 0, (⟨#[]⟩ : ByteArray), [], []⟩ : TValue), (⟨0, 0, (⟨#[]⟩ : ByteArray), [], []⟩ : TValue)⟩ : Object), 15)) else (F34 x1).bind fun t16 => ((some (())).bind fun o17 => (F36 x0 1 ((⟨(⟨x1.Meta.Kind, x1.Meta.Namespace, x1.Meta.Name, x0.NextUid, (IntKind.i64.wrap (x0.Rev + 1)), 1, x2, false, 0, t16.1, t16.2.1, t16.2.2.1, t16.2.2.2.1⟩ : Meta), (⟨t16.2.2.2.2.1, t16.2.2.2.2.2.1, t16.2.2.2.2.2.2.1, t16.2.2.2.2.2.2.2.1, t16.2.2.2.2.2.2.2.2.1⟩ : TValue), (⟨t16.2.2.2.2.2.2.2.2.2.1, t16.2.2.2.2.2.2.2.2.2.2.1, t16.2.2.2.2.2.2.2.2.2.2.2.1, t16.2.2.2.2.2.2.2.2.2.2.2.2.1, t16.2.2.2.2.2.2.2.2.2.2.2.2.2⟩ : TValue)⟩ : Object))).bind fun t18 => some ((t18.1, t18.2.1, (IntKind.i64.wrap (x0.NextUid + 1)), t18.2.2.1, t18.2.2.2.1, t18.2.2.2.2, (⟨(⟨x1.Meta.Kind, x1.Meta.Namespace, x1.Meta.Name, x0.NextUid, (IntKind.i64.wrap (x0.Rev + 1)), 1, x2, false, 0, t16.1, t16.2.1, t16.2.2.1, t16.2.2.2.1⟩ : Meta), (⟨t16.2.2.2.2.1, t16.2.2.2.2.2.1, t16.2.2.2.2.2.2.1, t16.2.2.2.2.2.2.2.1, t16.2.2.2.2.2.2.2.2.1⟩ : TValue), (⟨t16.2.2.2.2.2.2.2.2.2.1, t16.2.2.2.2.2.2.2.2.2.2.1, t16.2.2.2.2.2.2.2.2.2.2.2.1, t16.2.2.2.2.2.2.2.2.2.2.2.2.1, t16.2.2.2.2.2.2.2.2.2.2.2.2.2⟩ : TValue)⟩ : Object), 0))))))))
def a25 : AFn := ⟨97, [(.cell 6 (some 6)), (.cell 7 (some 23)), (.tmp 8)],
 (.seq (.reg [sq 3 (.box (.t 0)),
sq 4 (.box (.t 1)),
sq 6 (.zbox [dI 0, dI 0, dI 0, dN, dN, dN]),
sq 7 (.zbox [dS ⟨#[]⟩, dS ⟨#[]⟩, dS ⟨#[]⟩, dI 0, dI 0, dI 0, dI 0, dB false, dI 0, dN, dN, dN, dN, dI 0, dI 0, dS ⟨#[]⟩, dN, dN, dI 0, dI 0, dS ⟨#[]⟩, dN, dN]),
sq 8 (.mv (kI 0))])
 (.seq (.regd [sq 15 (.fieldA 4 (.t 3)),
sd 16 (.load none (.t 15)) [0],
sq 17 (.fieldA 0 (.t 4)),
sd 18 (.load (some 13) (.t 17)) [2],
⟨(some 19), none, .call 33 [(.t 18)], [2, 3], (.lone [3, 15])⟩,
⟨(some 20), none, .call 51 [(.t 16), (.t 19)], [0, 1, 2, 3, 4], (.lone [])⟩,
sd 14 (.mv (.t 20)) [0, 1, 2, 3, 4, 5],
sd 21 (.ext (.t 14) 0) [0, 1, 2, 3, 4, 5, 6],
sd 22 (.ext (.t 14) 1) [0, 1, 2, 3, 4, 5, 6],
sd 9 (.mv (.t 21)) [0, 1, 2, 3, 4, 5, 6, 7],
sd 10 (.mv (.t 22)) [0, 1, 2, 3, 4, 5, 6, 7, 8, 9]])
 (.seq (.block 0 (.seq (.sem (.reg [sq 24 (.load (some 23) (.t 4)),
sq 25 (.call 31 [(.t 24)]),
sq 26 (.not (.t 25)),
sq 27 (.mv (.t 26)),
⟨(some 28), (some (27, false)), .mv (.t 2), [], (.new [])⟩,
⟨(some 29), (some (27, false)), .bin .lss (.t 28) (kI 0), [], (.new [])⟩,
sq 30 (.pick (.t 27) (kB true) (.t 29)),
sq 31 (.mv (.t 30)),
⟨(some 32), (some (31, false)), .mv (.t 2), [], (.new [])⟩,
⟨(some 33), (some (31, false)), .bin .gtr (.t 32) (kI 1000000000000), [], (.new [])⟩,
sq 34 (.pick (.t 31) (kB true) (.t 33)),
sq 23 (.mv (.t 34))]))
 (.cond (.t 23)
 (.seq (.reg [sq 35 (.load (some 6) (.t 3)),
sq 36 (.call 32 [(.t 35)]),
sq 37 (.build [dS ⟨#[]⟩, dS ⟨#[]⟩, dS ⟨#[]⟩, dI 0, dI 0, dI 0, dI 0, dB false, dI 0, dN, dN, dN, dN, dI 0, dI 0, dS ⟨#[]⟩, dN, dN, dI 0, dI 0, dS ⟨#[]⟩, dN, dN] []),
su (.store 6 (.t 6) (.t 36)),
su (.store 23 (.t 7) (.t 37)),
sq 8 (.mv (kI 1))])
 .ret)
 (.seq (.reg [sq 39 (.mv (.t 10)),
sq 38 (.mv (.t 39))])
 (.cond (.t 38)
 (.seq (.reg [sq 40 (.load (some 6) (.t 3)),
sq 41 (.call 32 [(.t 40)]),
sq 42 (.build [dS ⟨#[]⟩, dS ⟨#[]⟩, dS ⟨#[]⟩, dI 0, dI 0, dI 0, dI 0, dB false, dI 0, dN, dN, dN, dN, dI 0, dI 0, dS ⟨#[]⟩, dN, dN, dI 0, dI 0, dS ⟨#[]⟩, dN, dN] []),
su (.store 6 (.t 6) (.t 41)),
su (.store 23 (.t 7) (.t 42)),
sq 8 (.mv (kI 8))])
 .ret)
 (.seq (.sem (.reg [sq 44 (.fieldA 4 (.t 3)),
sq 45 (.load none (.t 44)),
sq 46 (.len (.t 45)),
sq 47 (.bin .geq (.t 46) (kI 500)),
sq 48 (.mv (.t 47)),
⟨(some 49), (some (48, false)), .fieldA 0 (.t 3), [], (.new [])⟩,
⟨(some 50), (some (48, false)), .load none (.t 49), [], (.new [])⟩,
⟨(some 51), (some (48, false)), .bin .geq (.t 50) (kI 1000000000000000), [], (.new [])⟩,
sq 52 (.pick (.t 48) (kB true) (.t 51)),
sq 53 (.mv (.t 52)),
⟨(some 54), (some (53, false)), .fieldA 2 (.t 3), [], (.new [])⟩,
⟨(some 55), (some (53, false)), .load none (.t 54), [], (.new [])⟩,
⟨(some 56), (some (53, false)), .bin .geq (.t 55) (kI 1000000000000000), [], (.new [])⟩,
sq 57 (.pick (.t 53) (kB true) (.t 56)),
sq 43 (.mv (.t 57))]))
 (.cond (.t 43)
 (.seq (.reg [sq 58 (.load (some 6) (.t 3)),
sq 59 (.call 32 [(.t 58)]),
sq 60 (.build [dS ⟨#[]⟩, dS ⟨#[]⟩, dS ⟨#[]⟩, dI 0, dI 0, dI 0, dI 0, dB false, dI 0, dN, dN, dN, dN, dI 0, dI 0, dS ⟨#[]⟩, dN, dN, dI 0, dI 0, dS ⟨#[]⟩, dN, dN] []),
su (.store 6 (.t 6) (.t 59)),
su (.store 23 (.t 7) (.t 60)),
sq 8 (.mv (kI 15))])
 .ret)
 .skip)))))))
 (.seq (.reg [sq 61 (.load (some 23) (.t 4)),
sq 62 (.call 34 [(.t 61)]),
sq 11 (.zbox [dS ⟨#[]⟩, dS ⟨#[]⟩, dS ⟨#[]⟩, dI 0, dI 0, dI 0, dI 0, dB false, dI 0, dN, dN, dN, dN, dI 0, dI 0, dS ⟨#[]⟩, dN, dN, dI 0, dI 0, dS ⟨#[]⟩, dN, dN]),
su (.store 23 (.t 11) (.t 62))])
 (.seq (.reg [sq 63 (.fieldA 0 (.t 11)),
sq 12 (.mv (.t 63))])
 (.seq (.sem (.regd [sq 64 (.mv (.t 12)),
sq 65 (.mv (.t 12)),
sq 66 (.mv (.t 12)),
sq 67 (.mv (.t 12)),
sq 68 (.mv (.t 12)),
sq 69 (.mv (.t 12)),
sq 70 (.fieldA 2 (.t 3)),
sd 71 (.load none (.t 70)) [6],
sq 72 (.fieldA 0 (.t 3)),
sd 73 (.load none (.t 72)) [8],
sd 74 (.bin .add (.t 73) (kI 1)) [8, 9],
sq 75 (.mv (.t 2)),
sd 76 (.fieldA 0 (.t 64)) [0, 6, 7],
sd 77 (.fieldA 3 (.t 76)) [0, 6, 7, 12],
⟨none, none, .store 1 (.t 77) (.t 71), [0, 6, 7, 12, 13], (.lone [3, 72])⟩,
sd 78 (.fieldA 0 (.t 65)) [0, 1, 6, 7, 8, 9, 10, 12, 13, 14],
sd 79 (.fieldA 4 (.t 78)) [0, 1, 6, 7, 8, 9, 10, 12, 13, 14, 15],
⟨none, none, .store 1 (.t 79) (.t 74), [0, 1, 6, 7, 8, 9, 10, 12, 13, 14, 15, 16], (.lone [])⟩,
sd 80 (.fieldA 0 (.t 66)) [0, 1, 2, 6, 7, 8, 9, 10, 12, 13, 14, 15, 16, 17],
sd 81 (.fieldA 5 (.t 80)) [0, 1, 2, 6, 7, 8, 9, 10, 12, 13, 14, 15, 16, 17, 18],
⟨none, none, .store 1 (.t 81) (kI 1), [0, 1, 2, 6, 7, 8, 9, 10, 12, 13, 14, 15, 16, 17, 18, 19], (.lone [])⟩,
sd 82 (.fieldA 0 (.t 67)) [0, 1, 2, 3, 6, 7, 8, 9, 10, 11, 12, 13, 14, 15, 16, 17, 18, 19, 20],
sd 83 (.fieldA 6 (.t 82)) [0, 1, 2, 3, 6, 7, 8, 9, 10, 11, 12, 13, 14, 15, 16, 17, 18, 19, 20, 21],
⟨none, none, .store 1 (.t 83) (.t 75), [0, 1, 2, 3, 6, 7, 8, 9, 10, 11, 12, 13, 14, 15, 16, 17, 18, 19, 20, 21, 22], (.lone [])⟩,
sd 84 (.fieldA 0 (.t 68)) [0, 1, 2, 3, 4, 6, 7, 8, 9, 10, 11, 12, 13, 14, 15, 16, 17, 18, 19, 20, 21, 22, 23],
sd 85 (.fieldA 7 (.t 84)) [0, 1, 2, 3, 4, 6, 7, 8, 9, 10, 11, 12, 13, 14, 15, 16, 17, 18, 19, 20, 21, 22, 23, 24],
⟨none, none, .store 1 (.t 85) (kB false), [0, 1, 2, 3, 4, 6, 7, 8, 9, 10, 11, 12, 13, 14, 15, 16, 17, 18, 19, 20, 21, 22, 23, 24, 25], (.lone [])⟩,
sd 86 (.fieldA 0 (.t 69)) [0, 1, 2, 3, 4, 5, 6, 7, 8, 9, 10, 11, 12, 13, 14, 15, 16, 17, 18, 19, 20, 21, 22, 23, 24, 25, 26],
sd 87 (.fieldA 8 (.t 86)) [0, 1, 2, 3, 4, 5, 6, 7, 8, 9, 10, 11, 12, 13, 14, 15, 16, 17, 18, 19, 20, 21, 22, 23, 24, 25, 26, 27],
⟨none, none, .store 1 (.t 87) (kI 0), [0, 1, 2, 3, 4, 5, 6, 7, 8, 9, 10, 11, 12, 13, 14, 15, 16, 17, 18, 19, 20, 21, 22, 23, 24, 25, 26, 27, 28], (.lone [])⟩]))
 (.seq (.reg [sq 88 (.load (some 6) (.t 3)),
sq 89 (.load (some 23) (.t 11)),
sq 90 (.call 36 [(.t 88), (kI 1), (.t 89)]),
sq 13 (.zbox [dI 0, dI 0, dI 0, dN, dN, dN]),
su (.store 6 (.t 13) (.t 90))])
 (.seq (.reg [sq 91 (.fieldA 2 (.t 13)),
sq 92 (.load none (.t 91)),
sq 93 (.bin .add (.t 92) (kI 1)),
sq 94 (.fieldA 2 (.t 13)),
⟨none, none, .store 1 (.t 94) (.t 93), [], (.lone [13, 91, 13])⟩])
 (.seq (.regd [sq 95 (.load (some 6) (.t 13)),
sq 96 (.load (some 23) (.t 11)),
⟨none, none, .store 6 (.t 6) (.t 95), [0], (.lone [11])⟩,
⟨none, none, .store 23 (.t 7) (.t 96), [0, 1, 2], (.lone [])⟩,
sd 8 (.mv (kI 0)) [0, 1, 2, 3]])
 .ret)))))))))⟩
theorem a25_ok : afn Try.prog 25 = some a25.er := by kernel_rfl
theorem F25_ok {x0 : TStore} {x1 : Object} {x2 : Int} {r : Int × Int × Int × (List Object) × (List Object) × (List Change) × Object × Int} (h : F25 x0 x1 x2 = some r) : CallD Try.prog 25 [.agg [dI x0.Rev, dI x0.Floor, dI x0.NextUid, dM (x0.Base.map eObject), dM (x0.Objects.map eObject), dM (x0.History.map eChange)], .agg [dS x1.Meta.Kind, dS x1.Meta.Namespace, dS x1.Meta.Name, dI x1.Meta.Uid, dI x1.Meta.Version, dI x1.Meta.Generation, dI x1.Meta.Created, dB x1.Meta.Deleting, dI x1.Meta.DeleteAt, dM (x1.Meta.Labels.map eLabel), dM (x1.Meta.Owners.map eOwner), dM (x1.Meta.Finalizers.map eS), dM (x1.Meta.Managers.map eManager), dI x1.Spec.Kind, dI x1.Spec.N, dS x1.Spec.S, dM (x1.Spec.List_.map eTValue), dM (x1.Spec.Fields.map eTField), dI x1.Status.Kind, dI x1.Status.N, dS x1.Status.S, dM (x1.Status.List_.map eTValue), dM (x1.Status.Fields.map eTField)], .c (dI x2)] [] (tupV [.agg [dI r.1, dI r.2.1, dI r.2.2.1, .own 0 0 0 (r.2.2.2.1.length) none, .own 1 0 0 (r.2.2.2.2.1.length) none, .own 2 0 0 (r.2.2.2.2.2.1.length) none], .agg [dS ((r.2.2.2.2.2.2.1).Meta.Kind), dS ((r.2.2.2.2.2.2.1).Meta.Namespace), dS ((r.2.2.2.2.2.2.1).Meta.Name), dI ((r.2.2.2.2.2.2.1).Meta.Uid), dI ((r.2.2.2.2.2.2.1).Meta.Version), dI ((r.2.2.2.2.2.2.1).Meta.Generation), dI ((r.2.2.2.2.2.2.1).Meta.Created), dB ((r.2.2.2.2.2.2.1).Meta.Deleting), dI ((r.2.2.2.2.2.2.1).Meta.DeleteAt), dM (((r.2.2.2.2.2.2.1).Meta.Labels).map eLabel), dM (((r.2.2.2.2.2.2.1).Meta.Owners).map eOwner), dM (((r.2.2.2.2.2.2.1).Meta.Finalizers).map eS), dM (((r.2.2.2.2.2.2.1).Meta.Managers).map eManager), dI ((r.2.2.2.2.2.2.1).Spec.Kind), dI ((r.2.2.2.2.2.2.1).Spec.N), dS ((r.2.2.2.2.2.2.1).Spec.S), dM (((r.2.2.2.2.2.2.1).Spec.List_).map eTValue), dM (((r.2.2.2.2.2.2.1).Spec.Fields).map eTField), dI ((r.2.2.2.2.2.2.1).Status.Kind), dI ((r.2.2.2.2.2.2.1).Status.N), dS ((r.2.2.2.2.2.2.1).Status.S), dM (((r.2.2.2.2.2.2.1).Status.List_).map eTValue), dM (((r.2.2.2.2.2.2.1).Status.Fields).map eTField)], .c (dI r.2.2.2.2.2.2.2)]) [some (.arr 0 23 (r.2.2.2.1.map eObject)), some (.arr 0 23 (r.2.2.2.2.1.map eObject)), some (.arr 0 25 (r.2.2.2.2.2.1.map eChange))] := by
 refine callS a25_ok (by simp [a25]) ?_
 rw [F25] at h
 simp only [a25, VW.down, Nat.reduceEqDiff, reduceCtorEq, Nat.reduceAdd, Nat.reduceLeDiff, Nat.reduceLT, Nat.reduceBEq, Nat.reduceSub, EE.down]
 obtain ⟨t1, ht1, h⟩ := bi h
 refine cN [] (F33_ok ht1) trivial ?_
 refine ww ?_
 obtain ⟨t2, ht2, h⟩ := bi h
 refine cN [] (F51_ok ht2) trivial ?_
 refine ww ?_
 obtain ⟨o3, ho, h⟩ := bi h
 refine cutS (fun s => s = ⟨[(2, .one (.c (dI x2))), (3, .one (.c (.pt 0 0))), (4, .one (.c (.pt 1 0))), (6, .one (.c (.pt 2 0))), (7, .one (.c (.pt 3 0))), (10, .one (.c (dB t2.2))), (23, .one (.c (dB o3)))], [some (.box [dI x0.Rev, dI x0.Floor, dI x0.NextUid, dM (x0.Base.map eObject), dM (x0.Objects.map eObject), dM (x0.History.map eChange)]), some (.box [dS x1.Meta.Kind, dS x1.Meta.Namespace, dS x1.Meta.Name, dI x1.Meta.Uid, dI x1.Meta.Version, dI x1.Meta.Generation, dI x1.Meta.Created, dB x1.Meta.Deleting, dI x1.Meta.DeleteAt, dM (x1.Meta.Labels.map eLabel), dM (x1.Meta.Owners.map eOwner), dM (x1.Meta.Finalizers.map eS), dM (x1.Meta.Managers.map eManager), dI x1.Spec.Kind, dI x1.Spec.N, dS x1.Spec.S, dM (x1.Spec.List_.map eTValue), dM (x1.Spec.Fields.map eTField), dI x1.Status.Kind, dI x1.Status.N, dS x1.Status.S, dM (x1.Status.List_.map eTValue), dM (x1.Status.Fields.map eTField)]), some (.box [dI 0, dI 0, dI 0, dN, dN, dN]), some (.box [dS ((⟨#[]⟩ : ByteArray)), dS ((⟨#[]⟩ : ByteArray)), dS ((⟨#[]⟩ : ByteArray)), dI 0, dI 0, dI 0, dI 0, dB false, dI 0, dN, dN, dN, dN, dI 0, dI 0, dS ((⟨#[]⟩ : ByteArray)), dN, dN, dI 0, dI 0, dS ((⟨#[]⟩ : ByteArray)), dN, dN])]⟩) ?_ ?_
 ·have h := ho
  clear ho
  refine ww ?_
  obtain ⟨t4, ht4, h⟩ := bi h
  refine cN [] (F31_ok ht4) trivial ?_
  refine ww ?_
  refine guardSBh h (fun g5 h => ?_) (fun g5 h => ?_)
  ·refine ww ?_
   cases h
   exact eM [some 0, some 1, some 2, some 3] rfl
  ·refine ww ?_
   refine guardSh h (fun g6 h => ?_) (fun g6 h => ?_)
   ·refine ww ?_
    cases h
    exact eM [some 0, some 1, some 2, some 3] rfl
   ·refine ww ?_
    cases h
    exact eM [some 0, some 1, some 2, some 3] rfl
 ·rintro _ rfl
  clear ho
  refine ww ?_
  refine condBh h (fun c7 h => ?_) (fun c7 h => ?_)
  ·refine ww ?_
   obtain ⟨t8, ht8, h⟩ := bi h
   refine cN [] (F32_ok ht8) trivial ?_
   refine ww ?_
   cases h
   exact eF [some 4, some 5, some 6]
  ·refine ww ?_
   refine condBh h (fun c9 h => ?_) (fun c9 h => ?_)
   ·refine ww ?_
    obtain ⟨t10, ht10, h⟩ := bi h
    refine cN [] (F32_ok ht10) trivial ?_
    refine ww ?_
    cases h
    exact eF [some 4, some 5, some 6]
   ·refine ww ?_
    obtain ⟨o11, ho, h⟩ := bi h
    refine cutS (fun s => s = ⟨[(2, .one (.c (dI x2))), (3, .one (.c (.pt 0 0))), (4, .one (.c (.pt 1 0))), (6, .one (.c (.pt 2 0))), (7, .one (.c (.pt 3 0))), (43, .one (.c (dB o11)))], [some (.box [dI x0.Rev, dI x0.Floor, dI x0.NextUid, dM (x0.Base.map eObject), dM (x0.Objects.map eObject), dM (x0.History.map eChange)]), some (.box [dS x1.Meta.Kind, dS x1.Meta.Namespace, dS x1.Meta.Name, dI x1.Meta.Uid, dI x1.Meta.Version, dI x1.Meta.Generation, dI x1.Meta.Created, dB x1.Meta.Deleting, dI x1.Meta.DeleteAt, dM (x1.Meta.Labels.map eLabel), dM (x1.Meta.Owners.map eOwner), dM (x1.Meta.Finalizers.map eS), dM (x1.Meta.Managers.map eManager), dI x1.Spec.Kind, dI x1.Spec.N, dS x1.Spec.S, dM (x1.Spec.List_.map eTValue), dM (x1.Spec.Fields.map eTField), dI x1.Status.Kind, dI x1.Status.N, dS x1.Status.S, dM (x1.Status.List_.map eTValue), dM (x1.Status.Fields.map eTField)]), some (.box [dI 0, dI 0, dI 0, dN, dN, dN]), some (.box [dS ((⟨#[]⟩ : ByteArray)), dS ((⟨#[]⟩ : ByteArray)), dS ((⟨#[]⟩ : ByteArray)), dI 0, dI 0, dI 0, dI 0, dB false, dI 0, dN, dN, dN, dN, dI 0, dI 0, dS ((⟨#[]⟩ : ByteArray)), dN, dN, dI 0, dI 0, dS ((⟨#[]⟩ : ByteArray)), dN, dN])]⟩) ?_ ?_
    ·have h := ho
     clear ho
     refine ww ?_
     refine guardSh h (fun g12 h => ?_) (fun g12 h => ?_)
     ·refine ww ?_
      cases h
      exact eM [some 0, some 1, some 2, some 3] rfl
     ·refine ww ?_
      refine guardSh h (fun g13 h => ?_) (fun g13 h => ?_)
      ·refine ww ?_
       cases h
       exact eM [some 0, some 1, some 2, some 3] rfl
      ·refine ww ?_
       cases h
       exact eM [some 0, some 1, some 2, some 3] rfl
    ·rintro _ rfl
     clear ho
     refine ww ?_
     refine condBh h (fun c14 h => ?_) (fun c14 h => ?_)
     ·refine ww ?_
      obtain ⟨t15, ht15, h⟩ := bi h
      refine cN [] (F32_ok ht15) trivial ?_
      refine ww ?_
      cases h
      exact eF [some 4, some 5, some 6]
     ·refine ww ?_
      obtain ⟨t16, ht16, h⟩ := bi h
      refine cN [] (F34_ok ht16) trivial ?_
      refine ww ?_
      obtain ⟨o17, ho, h⟩ := bi h
      refine cutS (fun s => s = ⟨[(3, .one (.c (.pt 0 0))), (6, .one (.c (.pt 1 0))), (7, .one (.c (.pt 2 0))), (11, .one (.c (.pt 3 0)))], [some (.box [dI x0.Rev, dI x0.Floor, dI x0.NextUid, dM (x0.Base.map eObject), dM (x0.Objects.map eObject), dM (x0.History.map eChange)]), some (.box [dI 0, dI 0, dI 0, dN, dN, dN]), some (.box [dS ((⟨#[]⟩ : ByteArray)), dS ((⟨#[]⟩ : ByteArray)), dS ((⟨#[]⟩ : ByteArray)), dI 0, dI 0, dI 0, dI 0, dB false, dI 0, dN, dN, dN, dN, dI 0, dI 0, dS ((⟨#[]⟩ : ByteArray)), dN, dN, dI 0, dI 0, dS ((⟨#[]⟩ : ByteArray)), dN, dN]), some (.box [dS x1.Meta.Kind, dS x1.Meta.Namespace, dS x1.Meta.Name, dI x0.NextUid, dI ((IntKind.i64.wrap (x0.Rev + 1))), dI 1, dI x2, dB false, dI 0, dM (t16.1.map eLabel), dM (t16.2.1.map eOwner), dM (t16.2.2.1.map eS), dM (t16.2.2.2.1.map eManager), dI t16.2.2.2.2.1, dI t16.2.2.2.2.2.1, dS t16.2.2.2.2.2.2.1, dM (t16.2.2.2.2.2.2.2.1.map eTValue), dM (t16.2.2.2.2.2.2.2.2.1.map eTField), dI t16.2.2.2.2.2.2.2.2.2.1, dI t16.2.2.2.2.2.2.2.2.2.2.1, dS t16.2.2.2.2.2.2.2.2.2.2.2.1, dM (t16.2.2.2.2.2.2.2.2.2.2.2.2.1.map eTValue), dM (t16.2.2.2.2.2.2.2.2.2.2.2.2.2.map eTField)])]⟩) ?_ ?_
      ·have h := ho
       clear ho
       refine ww ?_
       cases h
       exact eM [some 0, some 2, some 3, some 8] rfl
      ·rintro _ rfl
       clear ho
       refine ww ?_
       obtain ⟨t18, ht18, h⟩ := bi h
       refine cN [] (F36_ok ht18) trivial ?_
       refine ww ?_
       cases h
       exact eF [some 4, some 5, some 6]

/- orchestrator/store.Get -/
def F21 (x0 : TStore) (x1 : ByteArray) : Option (ByteArray × ByteArray × ByteArray × Int × Int × Int × Int × Bool × Int × (List Label) × (List Owner) × (List ByteArray) × (List Manager) × Int × Int × ByteArray × ((List TValue)) × ((List TField)) × Int × Int × ByteArray × ((List TValue)) × ((List TField)) × Bool) := (F51 x0.Objects x1).bind fun t1 => (if t1.2 = true then (rdI x0.Objects t1.1).bind fun y3 => (F34 y3).bind fun t4 => some ((y3.Meta.Kind, y3.Meta.Namespace, y3.Meta.Name, y3.Meta.Uid, y3.Meta.Version, y3.Meta.Generation, y3.Meta.Created, y3.Meta.Deleting, y3.Meta.DeleteAt, t4.1, t4.2.1, t4.2.2.1, t4.2.2.2.1, t4.2.2.2.2.1, t4.2.2.2.2.2.1, t4.2.2.2.2.2.2.1, t4.2.2.2.2.2.2.2.1, t4.2.2.2.2.2.2.2.2.1, t4.2.2.2.2.2.2.2.2.2.1, t4.2.2.2.2.2.2.2.2.2.2.1, t4.2.2.2.2.2.2.2.2.2.2.2.1, t4.2.2.2.2.2.2.2.2.2.2.2.2.1, t4.2.2.2.2.2.2.2.2.2.2.2.2.2, true)) else some (((⟨#[]⟩ : ByteArray), (⟨#[]⟩ : ByteArray), (⟨#[]⟩ : ByteArray), 0, 0, 0, 0, false, 0, [], [], [], [], 0, 0, (⟨#[]⟩ : ByteArray), [], [], 0, 0, (⟨#[]⟩ : ByteArray), [], [], false)))
def a21 : AFn := ⟨23, [(.cell 4 (some 23)), (.tmp 5)],
 (.seq (.reg [sq 2 (.box (.t 0)),
sq 4 (.zbox [dS ⟨#[]⟩, dS ⟨#[]⟩, dS ⟨#[]⟩, dI 0, dI 0, dI 0, dI 0, dB false, dI 0, dN, dN, dN, dN, dI 0, dI 0, dS ⟨#[]⟩, dN, dN, dI 0, dI 0, dS ⟨#[]⟩, dN, dN]),
sq 5 (.mv (kB false))])
 (.seq (.seq (.reg [sq 9 (.fieldA 4 (.t 2)),
sq 10 (.load none (.t 9)),
sq 11 (.mv (.t 1)),
sq 12 (.call 51 [(.t 10), (.t 11)]),
sq 8 (.mv (.t 12)),
sq 13 (.ext (.t 8) 0),
sq 14 (.ext (.t 8) 1),
sq 6 (.mv (.t 13)),
sq 7 (.mv (.t 14))])
 (.seq (.reg [sq 15 (.mv (.t 7))])
 (.cond (.t 15)
 (.seq (.reg [sq 16 (.fieldA 4 (.t 2)),
sq 17 (.load none (.t 16)),
sq 18 (.mv (.t 6)),
sq 19 (.indexA 23 (.t 17) (.t 18)),
sq 20 (.load (some 23) (.t 19)),
sq 21 (.call 34 [(.t 20)]),
su (.store 23 (.t 4) (.t 21)),
sq 5 (.mv (kB true))])
 .ret)
 .skip)))
 (.seq (.reg [sq 22 (.build [dS ⟨#[]⟩, dS ⟨#[]⟩, dS ⟨#[]⟩, dI 0, dI 0, dI 0, dI 0, dB false, dI 0, dN, dN, dN, dN, dI 0, dI 0, dS ⟨#[]⟩, dN, dN, dI 0, dI 0, dS ⟨#[]⟩, dN, dN] []),
su (.store 23 (.t 4) (.t 22)),
sq 5 (.mv (kB false))])
 .ret)))⟩
theorem a21_ok : afn Try.prog 21 = some a21.er := by kernel_rfl
theorem F21_ok {x0 : TStore} {x1 : ByteArray} {r : ByteArray × ByteArray × ByteArray × Int × Int × Int × Int × Bool × Int × (List Label) × (List Owner) × (List ByteArray) × (List Manager) × Int × Int × ByteArray × ((List TValue)) × ((List TField)) × Int × Int × ByteArray × ((List TValue)) × ((List TField)) × Bool} (h : F21 x0 x1 = some r) : CallD Try.prog 21 [.agg [dI x0.Rev, dI x0.Floor, dI x0.NextUid, dM (x0.Base.map eObject), dM (x0.Objects.map eObject), dM (x0.History.map eChange)], .c (dS x1)] [] (tupV [.agg [dS r.1, dS r.2.1, dS r.2.2.1, dI r.2.2.2.1, dI r.2.2.2.2.1, dI r.2.2.2.2.2.1, dI r.2.2.2.2.2.2.1, dB r.2.2.2.2.2.2.2.1, dI r.2.2.2.2.2.2.2.2.1, .own 0 0 0 (r.2.2.2.2.2.2.2.2.2.1.length) none, .own 1 0 0 (r.2.2.2.2.2.2.2.2.2.2.1.length) none, .own 2 0 0 (r.2.2.2.2.2.2.2.2.2.2.2.1.length) none, .own 3 0 0 (r.2.2.2.2.2.2.2.2.2.2.2.2.1.length) none, dI r.2.2.2.2.2.2.2.2.2.2.2.2.2.1, dI r.2.2.2.2.2.2.2.2.2.2.2.2.2.2.1, dS r.2.2.2.2.2.2.2.2.2.2.2.2.2.2.2.1, dM (r.2.2.2.2.2.2.2.2.2.2.2.2.2.2.2.2.1.map eTValue), dM (r.2.2.2.2.2.2.2.2.2.2.2.2.2.2.2.2.2.1.map eTField), dI r.2.2.2.2.2.2.2.2.2.2.2.2.2.2.2.2.2.2.1, dI r.2.2.2.2.2.2.2.2.2.2.2.2.2.2.2.2.2.2.2.1, dS r.2.2.2.2.2.2.2.2.2.2.2.2.2.2.2.2.2.2.2.2.1, dM (r.2.2.2.2.2.2.2.2.2.2.2.2.2.2.2.2.2.2.2.2.2.1.map eTValue), dM (r.2.2.2.2.2.2.2.2.2.2.2.2.2.2.2.2.2.2.2.2.2.2.1.map eTField)], .c (dB r.2.2.2.2.2.2.2.2.2.2.2.2.2.2.2.2.2.2.2.2.2.2.2)]) [some (.arr 0 2 (r.2.2.2.2.2.2.2.2.2.1.map eLabel)), some (.arr 0 5 (r.2.2.2.2.2.2.2.2.2.2.1.map eOwner)), some (.arr 0 1 (r.2.2.2.2.2.2.2.2.2.2.2.1.map eS)), some (.arr 0 2 (r.2.2.2.2.2.2.2.2.2.2.2.2.1.map eManager))] := by
 refine callS a21_ok (by simp [a21]) ?_
 rw [F21] at h
 simp only [a21, VW.down, Nat.reduceEqDiff, reduceCtorEq, Nat.reduceAdd, Nat.reduceLeDiff, Nat.reduceLT, Nat.reduceBEq, Nat.reduceSub, EE.down]
 obtain ⟨t1, ht1, h⟩ := bi h
 refine cN [] (F51_ok ht1) trivial ?_
 refine ww ?_
 refine condBh h (fun c2 h => ?_) (fun c2 h => ?_)
 ·refine ww ?_
  obtain ⟨y3, hy3, h⟩ := bi h
  refine t_idxF (enc := eObject) (xs := x0.Objects) rfl rfl hy3 rfl ?_
  refine ww ?_
  obtain ⟨t4, ht4, h⟩ := bi h
  refine cN [] (F34_ok ht4) trivial ?_
  refine ww ?_
  cases h
  exact eF [some 2, some 3, some 4, some 5]
 ·refine ww ?_
  cases h
  exact eF [none, none, none, none]

/- cmp.isNaN[int] -/
def F107 (x0 : Int) : Option (Unit) := some (())
def a107 : AFn := ⟨6, [(.tmp 2)],
 (.seq (.reg [sq 2 (.mv (kB false))])
 (.seq (.reg [sq 3 (.mv (.t 0)),
sq 4 (.mv (.t 0)),
sq 5 (.bin .neq (.t 3) (.t 4)),
sq 2 (.mv (.t 5))])
 .ret))⟩
theorem a107_ok : afn Try.prog 107 = some a107.er := by kernel_rfl
theorem F107_ok {x0 : Int} {r : Unit} (h : F107 x0 = some r) : CallD Try.prog 107 [.c (dI x0)] [] (tupV [.c (dB (decide (¬ (True))))]) [] := by
 refine callS a107_ok (by simp [a107]) ?_
 rw [F107] at h
 simp only [a107, VW.down, Nat.reduceEqDiff, reduceCtorEq, Nat.reduceAdd, Nat.reduceLeDiff, Nat.reduceLT, Nat.reduceBEq, Nat.reduceSub, EE.down]
 cases h
 exact eF []

/- cmp.Compare[int] -/
def F91 (x0 : Int) (x1 : Int) : Option (Int) := (F107 x0).bind fun t1 => (F107 x1).bind fun t2 => (if ¬ (True) then (if ¬ (True) then some 0 else some ((-1))) else (if ¬ (True) then some 1 else (if x0 < x1 then some ((-1)) else (if x1 < x0 then some 1 else some 0))))
def a91 : AFn := ⟨20, [(.tmp 4)],
 (.seq (.reg [sq 4 (.mv (kI 0))])
 (.seq (.reg [sq 7 (.mv (.t 0)),
sq 8 (.call 107 [(.t 7)]),
sq 5 (.mv (.t 8))])
 (.seq (.reg [sq 9 (.mv (.t 1)),
sq 10 (.call 107 [(.t 9)]),
sq 6 (.mv (.t 10))])
 (.seq (.seq (.reg [sq 11 (.mv (.t 5))])
 (.cond (.t 11)
 (.seq (.seq (.reg [sq 12 (.mv (.t 6))])
 (.cond (.t 12)
 (.seq (.reg [sq 4 (.mv (kI 0))])
 .ret)
 .skip))
 (.seq (.reg [sq 4 (.mv (kI (-1)))])
 .ret))
 .skip))
 (.seq (.seq (.reg [sq 13 (.mv (.t 6))])
 (.cond (.t 13)
 (.seq (.reg [sq 4 (.mv (kI 1))])
 .ret)
 .skip))
 (.seq (.seq (.reg [sq 14 (.mv (.t 0)),
sq 15 (.mv (.t 1)),
sq 16 (.bin .lss (.t 14) (.t 15))])
 (.cond (.t 16)
 (.seq (.reg [sq 4 (.mv (kI (-1)))])
 .ret)
 .skip))
 (.seq (.seq (.reg [sq 17 (.mv (.t 0)),
sq 18 (.mv (.t 1)),
sq 19 (.bin .gtr (.t 17) (.t 18))])
 (.cond (.t 19)
 (.seq (.reg [sq 4 (.mv (kI 1))])
 .ret)
 .skip))
 (.seq (.reg [sq 4 (.mv (kI 0))])
 .ret))))))))⟩
theorem a91_ok : afn Try.prog 91 = some a91.er := by kernel_rfl
theorem F91_ok {x0 : Int} {x1 : Int} {r : Int} (h : F91 x0 x1 = some r) : CallD Try.prog 91 [.c (dI x0), .c (dI x1)] [] (tupV [.c (dI r)]) [] := by
 refine callS a91_ok (by simp [a91]) ?_
 rw [F91] at h
 simp only [a91, VW.down, Nat.reduceEqDiff, reduceCtorEq, Nat.reduceAdd, Nat.reduceLeDiff, Nat.reduceLT, Nat.reduceBEq, Nat.reduceSub, EE.down]
 obtain ⟨t1, ht1, h⟩ := bi h
 refine cN [] (F107_ok ht1) trivial ?_
 refine ww ?_
 obtain ⟨t2, ht2, h⟩ := bi h
 refine cN [] (F107_ok ht2) trivial ?_
 refine ww ?_
 refine condSh h (fun c3 h => ?_) (fun c3 h => ?_)
 ·refine ww ?_
  refine condSh h (fun c4 h => ?_) (fun c4 h => ?_)
  ·refine ww ?_
   cases h
   exact eF []
  ·refine ww ?_
   cases h
   exact eF []
 ·refine ww ?_
  refine condSh h (fun c5 h => ?_) (fun c5 h => ?_)
  ·refine ww ?_
   cases h
   exact eF []
  ·refine ww ?_
   refine condSh h (fun c6 h => ?_) (fun c6 h => ?_)
   ·refine ww ?_
    cases h
    exact eF []
   ·refine ww ?_
    refine condSh h (fun c7 h => ?_) (fun c7 h => ?_)
    ·refine ww ?_
     cases h
     exact eF []
    ·refine ww ?_
     cases h
     exact eF []

/- cmp.Or[int] -/
def F90_l1  : List Int → Nat → Option ((Int) ⊕ (Unit))
  | [], o1_0 => some (Sum.inr (()))
  | xo1 :: xs, o1_0 => (if ¬ (xo1 = 0) then (some xo1).map Sum.inl else F90_l1  xs (o1_0 + 1))
def F90 (x0 : (List Int)) : Option (Int) := (((ck (0 ≤ x0.length ∧ x0.length ≤ 4294967290)).bind fun u4 => F90_l1 x0 0 : Option ((Int) ⊕ (Unit))).bind fun o1 => match o1 with | Sum.inl f => some f | Sum.inr po1 => some 0)
def a90 : AFn := ⟨18, [(.tmp 2)],
 (.seq (.reg [sq 2 (.mv (kI 0))])
 (.seq (.reg [sq 3 (.mv (kI 0))])
 (.seq (.seq (.reg [sq 6 (.mv (.t 0)),
sq 7 (.len (.t 6)),
sq 8 (.mv (kI 0))])
 (.sem (.block 0 (.loop (.seq (.reg [sq 9 (.bin .lss (.t 8) (.t 7))])
 (.seq (.cond (.t 9)
 .skip
 (.exit 0))
 (.seq (.block 1 (.seq (.reg [sq 10 (.indexA 1 (.t 6) (.t 8)),
sq 11 (.load none (.t 10)),
sq 5 (.mv (.t 11))])
 (.seq (.reg [sq 12 (.mv (.t 5)),
sq 13 (.mv (.t 3)),
sq 14 (.bin .neq (.t 12) (.t 13))])
 (.cond (.t 14)
 (.seq (.reg [sq 15 (.mv (.t 5)),
sq 2 (.mv (.t 15))])
 .ret)
 .skip))))
 (.reg [sq 16 (.bin .add (.t 8) (kI 1)),
sq 8 (.mv (.t 16))]))))))))
 (.seq (.reg [sq 17 (.mv (.t 3)),
sq 2 (.mv (.t 17))])
 .ret))))⟩
theorem a90_ok : afn Try.prog 90 = some a90.er := by kernel_rfl
theorem F90_ok {x0 : (List Int)} {r : Int} (h : F90 x0 = some r) : CallD Try.prog 90 [.c (dM (x0.map eI))] [] (tupV [.c (dI r)]) [] := by
 refine callS a90_ok (by simp [a90]) ?_
 rw [F90] at h
 simp only [a90, VW.down, Nat.reduceEqDiff, reduceCtorEq, Nat.reduceAdd, Nat.reduceLeDiff, Nat.reduceLT, Nat.reduceBEq, Nat.reduceSub, EE.down]
 obtain ⟨o1, ho, h⟩ := bi h
 refine cutS (fun s => ∃ po1, o1 = Sum.inr po1 ∧ s = ⟨[(3, .one (.c (dI 0)))], []⟩) ?_ ?_
 ·have h0o1 := h
  have h := ho
  clear ho
  obtain ⟨_, hk, h⟩ := bi h
  have hk := ck_some hk
  refine ww ?_
  refine bL (fun j s => ∃ (o1_0 : Nat), (o1_0 ≤ x0.length ∧ j = x0.length - o1_0) ∧ s = ⟨[(3, .one (.c (dI 0))), (6, .one (.c (dM (x0.map eI)))), (7, .one (.c (dI ((x0.length : Int))))), (8, .one (.c (dI ((o1_0 : Int)))))], []⟩ ∧ F90_l1 (x0.drop o1_0) o1_0 = some o1) (x0.length - 0) [] ⟨0, ⟨hk.1, rfl⟩, rfl, h⟩ ?_
  rintro _ _ ⟨o1_0, ⟨hi, rfl⟩, rfl, h⟩
  refine ww ?_
  refine condS (fun c2 => ?_) (fun c2 => ?_)
  ·obtain ⟨xo1, hxo1, hd⟩ := countY (show (o1_0 : Int) < (x0.length : Int) from c2)
   rw [hd, F90_l1] at h
   refine ww ?_
   refine t_idxF (enc := eI) (xs := x0) rfl rfl hxo1 rfl ?_
   refine ww ?_
   refine condSh h (fun c3 h => ?_) (fun c3 h => ?_)
   ·refine ww ?_
    obtain ⟨fh0o1, hfh0o1, rfl⟩ := Option.map_eq_some_iff.1 h
    have h := hfh0o1.trans h0o1
    cases h
    exact eF []
   ·refine ww ?_
    rw [wrapN (by omega)]
    exact eL' (x0.length - (o1_0 + 1)) [] ⟨o1_0 + 1, ⟨by omega, rfl⟩, rfl, h⟩ (by omega)
  ·rw [countN (show ¬ ((o1_0 : Int) < (x0.length : Int)) from c2), F90_l1] at h
   refine ww ?_
   cases h
   exact eM [] ⟨_, rfl, rfl⟩
 ·rintro _ ⟨po1, rfl, rfl⟩
  clear ho
  dsimp only at h
  refine ww ?_
  cases h
  exact eF []

/- slices.CompareFunc[[]orchestrator/api.Value,[]orchestrator/api.Value,orchestrator/api.Value,orchestrator/api.Value] -/
def F92_l1 (rc49 : TValue → TValue → Option (Int)) (x1 : (List TValue)) : List TValue → Nat → Option ((Int) ⊕ (Unit))
  | [], o1_0 => some (Sum.inr (()))
  | xo1 :: xs, o1_0 => (if (x1.length : Int) ≤ (o1_0 : Int) then (some 1).map Sum.inl else (rdI x1 ((o1_0 : Int))).bind fun y4 => (rc49 xo1 y4).bind fun t5 => (if ¬ (t5 = 0) then (some t5).map Sum.inl else F92_l1 rc49 x1 xs (o1_0 + 1)))
def F92 (rc49 : TValue → TValue → Option (Int)) (x0 : (List TValue)) (x1 : (List TValue)) : Option (Int) := (((ck (0 ≤ x0.length ∧ x0.length ≤ 4294967290)).bind fun u7 => F92_l1 rc49 x1 x0 0 : Option ((Int) ⊕ (Unit))).bind fun o1 => match o1 with | Sum.inl f => some f | Sum.inr po1 => (if (x0.length : Int) < (x1.length : Int) then some ((-1)) else some 0))
def a92 : AFn := ⟨39, [(.tmp 6)],
 (.seq (.reg [sq 6 (.mv (kI 0))])
 (.seq (.seq (.reg [sq 11 (.mv (.t 0)),
sq 12 (.len (.t 11)),
sq 13 (.mv (kI 0))])
 (.sem (.block 0 (.loop (.seq (.reg [sq 14 (.bin .lss (.t 13) (.t 12))])
 (.seq (.cond (.t 14)
 .skip
 (.exit 0))
 (.seq (.block 1 (.seq (.reg [sq 15 (.mv (.t 13)),
sq 16 (.indexA 5 (.t 11) (.t 13)),
sq 17 (.load (some 5) (.t 16)),
sq 8 (.zbox [dI 0, dI 0, dS ⟨#[]⟩, dN, dN]),
sq 7 (.mv (.t 15)),
su (.store 5 (.t 8) (.t 17))])
 (.seq (.seq (.reg [sq 18 (.mv (.t 7)),
sq 19 (.mv (.t 1)),
sq 20 (.len (.t 19)),
sq 21 (.bin .geq (.t 18) (.t 20))])
 (.cond (.t 21)
 (.seq (.reg [sq 6 (.mv (kI 1))])
 .ret)
 .skip))
 (.seq (.reg [sq 22 (.mv (.t 1)),
sq 23 (.mv (.t 7)),
sq 24 (.indexA 5 (.t 22) (.t 23)),
sq 25 (.load (some 5) (.t 24)),
sq 9 (.zbox [dI 0, dI 0, dS ⟨#[]⟩, dN, dN]),
su (.store 5 (.t 9) (.t 25))])
 (.seq (.reg [sq 26 (.mv (.t 2)),
sq 27 (.load (some 5) (.t 8)),
sq 28 (.load (some 5) (.t 9)),
sq 29 (.callv (.t 26) [(.t 27), (.t 28)]),
sq 10 (.mv (.t 29))])
 (.seq (.reg [sq 30 (.mv (.t 10)),
sq 31 (.bin .neq (.t 30) (kI 0))])
 (.cond (.t 31)
 (.seq (.reg [sq 32 (.mv (.t 10)),
sq 6 (.mv (.t 32))])
 .ret)
 .skip)))))))
 (.reg [sq 33 (.bin .add (.t 13) (kI 1)),
sq 13 (.mv (.t 33))]))))))))
 (.seq (.seq (.reg [sq 34 (.mv (.t 0)),
sq 35 (.len (.t 34)),
sq 36 (.mv (.t 1)),
sq 37 (.len (.t 36)),
sq 38 (.bin .lss (.t 35) (.t 37))])
 (.cond (.t 38)
 (.seq (.reg [sq 6 (.mv (kI (-1)))])
 .ret)
 .skip))
 (.seq (.reg [sq 6 (.mv (kI 0))])
 .ret))))⟩
theorem a92_ok : afn Try.prog 92 = some a92.er := by kernel_rfl
theorem F92_ok {rc49 : TValue → TValue → Option (Int)} (ih49 : ∀ {x0 : TValue} {x1 : TValue} {r : Int} (h : rc49 x0 x1 = some r), CallD Try.prog 67 [.agg [dI x0.Kind, dI x0.N, dS x0.S, dM (x0.List_.map eTValue), dM (x0.Fields.map eTField)], .agg [dI x1.Kind, dI x1.N, dS x1.S, dM (x1.List_.map eTValue), dM (x1.Fields.map eTField)]] [] (tupV [.c (dI r)]) [])  {x0 : (List TValue)} {x1 : (List TValue)} {r : Int} (h : F92 rc49 x0 x1 = some r) : CallD Try.prog 92 [.c (dM (x0.map eTValue)), .c (dM (x1.map eTValue)), .c (.fn 67 [])] [] (tupV [.c (dI r)]) [] := by
 refine callS a92_ok (by simp [a92]) ?_
 rw [F92] at h
 simp only [a92, VW.down, Nat.reduceEqDiff, reduceCtorEq, Nat.reduceAdd, Nat.reduceLeDiff, Nat.reduceLT, Nat.reduceBEq, Nat.reduceSub, EE.down]
 obtain ⟨o1, ho, h⟩ := bi h
 refine cutS (fun s => ∃ po1, o1 = Sum.inr po1 ∧ s = ⟨[(0, .one (.c (dM (x0.map eTValue)))), (1, .one (.c (dM (x1.map eTValue))))], []⟩) ?_ ?_
 ·have h0o1 := h
  have h := ho
  clear ho
  obtain ⟨_, hk, h⟩ := bi h
  have hk := ck_some hk
  refine ww ?_
  refine bL (fun j s => ∃ (o1_0 : Nat), (o1_0 ≤ x0.length ∧ j = x0.length - o1_0) ∧ s = ⟨[(0, .one (.c (dM (x0.map eTValue)))), (1, .one (.c (dM (x1.map eTValue)))), (2, .one (.c (.fn 67 []))), (11, .one (.c (dM (x0.map eTValue)))), (12, .one (.c (dI ((x0.length : Int))))), (13, .one (.c (dI ((o1_0 : Int)))))], []⟩ ∧ F92_l1 rc49 x1 (x0.drop o1_0) o1_0 = some o1) (x0.length - 0) [] ⟨0, ⟨hk.1, rfl⟩, rfl, h⟩ ?_
  rintro _ _ ⟨o1_0, ⟨hi, rfl⟩, rfl, h⟩
  refine ww ?_
  refine condS (fun c2 => ?_) (fun c2 => ?_)
  ·obtain ⟨xo1, hxo1, hd⟩ := countY (show (o1_0 : Int) < (x0.length : Int) from c2)
   rw [hd, F92_l1] at h
   refine ww ?_
   refine t_idxF (enc := eTValue) (xs := x0) rfl rfl hxo1 (by rw [eTValue_u]; rfl) ?_
   refine ww ?_
   refine condSh h (fun c3 h => ?_) (fun c3 h => ?_)
   ·refine ww ?_
    obtain ⟨fh0o1, hfh0o1, rfl⟩ := Option.map_eq_some_iff.1 h
    have h := hfh0o1.trans h0o1
    cases h
    exact eF []
   ·refine ww ?_
    obtain ⟨y4, hy4, h⟩ := bi h
    refine t_idxF (enc := eTValue) (xs := x1) rfl rfl hy4 (by rw [eTValue_u]; rfl) ?_
    refine ww ?_
    obtain ⟨t5, ht5, h⟩ := bi h
    refine cN [] (ih49 ht5) trivial ?_
    refine ww ?_
    refine condSh h (fun c6 h => ?_) (fun c6 h => ?_)
    ·refine ww ?_
     obtain ⟨fh0o1, hfh0o1, rfl⟩ := Option.map_eq_some_iff.1 h
     have h := hfh0o1.trans h0o1
     cases h
     exact eF []
    ·refine ww ?_
     rw [wrapN (by omega)]
     exact eL' (x0.length - (o1_0 + 1)) [] ⟨o1_0 + 1, ⟨by omega, rfl⟩, rfl, h⟩ (by omega)
  ·rw [countN (show ¬ ((o1_0 : Int) < (x0.length : Int)) from c2), F92_l1] at h
   refine ww ?_
   cases h
   exact eM [] ⟨_, rfl, rfl⟩
 ·rintro _ ⟨po1, rfl, rfl⟩
  clear ho
  dsimp only at h
  refine ww ?_
  refine condSh h (fun c8 h => ?_) (fun c8 h => ?_)
  ·refine ww ?_
   cases h
   exact eF []
  ·refine ww ?_
   cases h
   exact eF []

/- orchestrator/value.Compare$1 -/
def F94 (rc49 : TValue → TValue → Option (Int)) (x0 : TField) (x1 : TField) : Option (Int) := (F73 x0.Name x1.Name).bind fun t1 => (rc49 x0.V x1.V).bind fun t2 => (F90 ([t1, t2])).bind fun t3 => some t3
def a94 : AFn := ⟨17, [(.tmp 4)],
 (.seq (.reg [sq 2 (.box (.t 0)),
sq 3 (.box (.t 1)),
sq 4 (.mv (kI 0))])
 (.seq (.regd [sq 5 (.fieldA 0 (.t 2)),
sd 6 (.load none (.t 5)) [0],
sq 7 (.fieldA 0 (.t 3)),
sd 8 (.load none (.t 7)) [2],
⟨(some 9), none, .call 73 [(.t 6), (.t 8)], [0, 1, 2, 3], (.new [0, 1, 2, 3])⟩,
sq 10 (.fieldA 1 (.t 2)),
sd 11 (.load (some 5) (.t 10)) [5],
sq 12 (.fieldA 1 (.t 3)),
sd 13 (.load (some 5) (.t 12)) [7],
⟨(some 14), none, .call 67 [(.t 11), (.t 13)], [0, 1, 2, 3, 4, 5, 6, 7, 8], (.lone [])⟩,
⟨(some 15), none, .bslice 1 [(.t 9), (.t 14)], [0, 1, 2, 3, 4, 5, 6, 7, 8, 9], (.lone [])⟩,
⟨(some 16), none, .call 90 [(.t 15)], [0, 1, 2, 3, 4, 5, 6, 7, 8, 9, 10], (.lone [])⟩,
sd 4 (.mv (.t 16)) [0, 1, 2, 3, 4, 5, 6, 7, 8, 9, 10, 11]])
 .ret))⟩
theorem a94_ok : afn Try.prog 94 = some a94.er := by kernel_rfl
theorem F94_ok {rc49 : TValue → TValue → Option (Int)} (ih49 : ∀ {x0 : TValue} {x1 : TValue} {r : Int} (h : rc49 x0 x1 = some r), CallD Try.prog 67 [.agg [dI x0.Kind, dI x0.N, dS x0.S, dM (x0.List_.map eTValue), dM (x0.Fields.map eTField)], .agg [dI x1.Kind, dI x1.N, dS x1.S, dM (x1.List_.map eTValue), dM (x1.Fields.map eTField)]] [] (tupV [.c (dI r)]) [])  {x0 : TField} {x1 : TField} {r : Int} (h : F94 rc49 x0 x1 = some r) : CallD Try.prog 94 [.agg [dS x0.Name, dI x0.V.Kind, dI x0.V.N, dS x0.V.S, dM (x0.V.List_.map eTValue), dM (x0.V.Fields.map eTField)], .agg [dS x1.Name, dI x1.V.Kind, dI x1.V.N, dS x1.V.S, dM (x1.V.List_.map eTValue), dM (x1.V.Fields.map eTField)]] [] (tupV [.c (dI r)]) [] := by
 refine callS a94_ok (by simp [a94]) ?_
 rw [F94] at h
 simp only [a94, VW.down, Nat.reduceEqDiff, reduceCtorEq, Nat.reduceAdd, Nat.reduceLeDiff, Nat.reduceLT, Nat.reduceBEq, Nat.reduceSub, EE.down]
 obtain ⟨t1, ht1, h⟩ := bi h
 refine cN [] (F73_ok ht1) trivial ?_
 refine ww ?_
 obtain ⟨t2, ht2, h⟩ := bi h
 refine cN [] (ih49 ht2) trivial ?_
 refine ww ?_
 refine t_bslice (enc := eI) (ys := [t1, t2]) rfl rfl (by simp [A1.cells]) (by first | rfl | (simp only [List.drop_zero, take_mapL]; rfl) | (simp only [lit, List.map_cons, List.map_nil, List.drop_zero, take_mapL, EE.down]; done) | (simp only [lit, List.map_cons, List.map_nil, List.drop_zero, take_mapL, EE.down]; rfl)) ?_
 refine ww ?_
 obtain ⟨t3, ht3, h⟩ := bi h
 refine callX_bor (F90_ok ht3) (by simp only [borAs, bors, hp, List.getElem?_cons_zero, List.getElem?_cons_succ, Option.join_some, List.drop_zero, bor_full', true_and, Nat.zero_add, List.length_map, Nat.le_refl, nrm, List.length_cons, List.length_nil, Nat.reduceAdd, Nat.reduceLeDiff, List.take_succ_cons, List.take_zero, List.take_nil, List.map_cons, List.map_nil, List.length_set, EE.down]) rfl ?_
 refine ww ?_
 cases h
 exact eF []

/- slices.CompareFunc[[]orchestrator/api.Field,[]orchestrator/api.Field,orchestrator/api.Field,orchestrator/api.Field] -/
def F93_l1 (rc49 : TValue → TValue → Option (Int)) (x1 : (List TField)) : List TField → Nat → Option ((Int) ⊕ (Unit))
  | [], o1_0 => some (Sum.inr (()))
  | xo1 :: xs, o1_0 => (if (x1.length : Int) ≤ (o1_0 : Int) then (some 1).map Sum.inl else (rdI x1 ((o1_0 : Int))).bind fun y4 => (F94 rc49 xo1 y4).bind fun t5 => (if ¬ (t5 = 0) then (some t5).map Sum.inl else F93_l1 rc49 x1 xs (o1_0 + 1)))
def F93 (rc49 : TValue → TValue → Option (Int)) (x0 : (List TField)) (x1 : (List TField)) : Option (Int) := (((ck (0 ≤ x0.length ∧ x0.length ≤ 4294967290)).bind fun u7 => F93_l1 rc49 x1 x0 0 : Option ((Int) ⊕ (Unit))).bind fun o1 => match o1 with | Sum.inl f => some f | Sum.inr po1 => (if (x0.length : Int) < (x1.length : Int) then some ((-1)) else some 0))
def a93 : AFn := ⟨39, [(.tmp 6)],
 (.seq (.reg [sq 6 (.mv (kI 0))])
 (.seq (.seq (.reg [sq 11 (.mv (.t 0)),
sq 12 (.len (.t 11)),
sq 13 (.mv (kI 0))])
 (.sem (.block 0 (.loop (.seq (.reg [sq 14 (.bin .lss (.t 13) (.t 12))])
 (.seq (.cond (.t 14)
 .skip
 (.exit 0))
 (.seq (.block 1 (.seq (.reg [sq 15 (.mv (.t 13)),
sq 16 (.indexA 6 (.t 11) (.t 13)),
sq 17 (.load (some 6) (.t 16)),
sq 8 (.zbox [dS ⟨#[]⟩, dI 0, dI 0, dS ⟨#[]⟩, dN, dN]),
sq 7 (.mv (.t 15)),
su (.store 6 (.t 8) (.t 17))])
 (.seq (.seq (.reg [sq 18 (.mv (.t 7)),
sq 19 (.mv (.t 1)),
sq 20 (.len (.t 19)),
sq 21 (.bin .geq (.t 18) (.t 20))])
 (.cond (.t 21)
 (.seq (.reg [sq 6 (.mv (kI 1))])
 .ret)
 .skip))
 (.seq (.reg [sq 22 (.mv (.t 1)),
sq 23 (.mv (.t 7)),
sq 24 (.indexA 6 (.t 22) (.t 23)),
sq 25 (.load (some 6) (.t 24)),
sq 9 (.zbox [dS ⟨#[]⟩, dI 0, dI 0, dS ⟨#[]⟩, dN, dN]),
su (.store 6 (.t 9) (.t 25))])
 (.seq (.reg [sq 26 (.mv (.t 2)),
sq 27 (.load (some 6) (.t 8)),
sq 28 (.load (some 6) (.t 9)),
sq 29 (.callv (.t 26) [(.t 27), (.t 28)]),
sq 10 (.mv (.t 29))])
 (.seq (.reg [sq 30 (.mv (.t 10)),
sq 31 (.bin .neq (.t 30) (kI 0))])
 (.cond (.t 31)
 (.seq (.reg [sq 32 (.mv (.t 10)),
sq 6 (.mv (.t 32))])
 .ret)
 .skip)))))))
 (.reg [sq 33 (.bin .add (.t 13) (kI 1)),
sq 13 (.mv (.t 33))]))))))))
 (.seq (.seq (.reg [sq 34 (.mv (.t 0)),
sq 35 (.len (.t 34)),
sq 36 (.mv (.t 1)),
sq 37 (.len (.t 36)),
sq 38 (.bin .lss (.t 35) (.t 37))])
 (.cond (.t 38)
 (.seq (.reg [sq 6 (.mv (kI (-1)))])
 .ret)
 .skip))
 (.seq (.reg [sq 6 (.mv (kI 0))])
 .ret))))⟩
theorem a93_ok : afn Try.prog 93 = some a93.er := by kernel_rfl
theorem F93_ok {rc49 : TValue → TValue → Option (Int)} (ih49 : ∀ {x0 : TValue} {x1 : TValue} {r : Int} (h : rc49 x0 x1 = some r), CallD Try.prog 67 [.agg [dI x0.Kind, dI x0.N, dS x0.S, dM (x0.List_.map eTValue), dM (x0.Fields.map eTField)], .agg [dI x1.Kind, dI x1.N, dS x1.S, dM (x1.List_.map eTValue), dM (x1.Fields.map eTField)]] [] (tupV [.c (dI r)]) [])  {x0 : (List TField)} {x1 : (List TField)} {r : Int} (h : F93 rc49 x0 x1 = some r) : CallD Try.prog 93 [.c (dM (x0.map eTField)), .c (dM (x1.map eTField)), .c (.fn 94 [])] [] (tupV [.c (dI r)]) [] := by
 refine callS a93_ok (by simp [a93]) ?_
 rw [F93] at h
 simp only [a93, VW.down, Nat.reduceEqDiff, reduceCtorEq, Nat.reduceAdd, Nat.reduceLeDiff, Nat.reduceLT, Nat.reduceBEq, Nat.reduceSub, EE.down]
 obtain ⟨o1, ho, h⟩ := bi h
 refine cutS (fun s => ∃ po1, o1 = Sum.inr po1 ∧ s = ⟨[(0, .one (.c (dM (x0.map eTField)))), (1, .one (.c (dM (x1.map eTField))))], []⟩) ?_ ?_
 ·have h0o1 := h
  have h := ho
  clear ho
  obtain ⟨_, hk, h⟩ := bi h
  have hk := ck_some hk
  refine ww ?_
  refine bL (fun j s => ∃ (o1_0 : Nat), (o1_0 ≤ x0.length ∧ j = x0.length - o1_0) ∧ s = ⟨[(0, .one (.c (dM (x0.map eTField)))), (1, .one (.c (dM (x1.map eTField)))), (2, .one (.c (.fn 94 []))), (11, .one (.c (dM (x0.map eTField)))), (12, .one (.c (dI ((x0.length : Int))))), (13, .one (.c (dI ((o1_0 : Int)))))], []⟩ ∧ F93_l1 rc49 x1 (x0.drop o1_0) o1_0 = some o1) (x0.length - 0) [] ⟨0, ⟨hk.1, rfl⟩, rfl, h⟩ ?_
  rintro _ _ ⟨o1_0, ⟨hi, rfl⟩, rfl, h⟩
  refine ww ?_
  refine condS (fun c2 => ?_) (fun c2 => ?_)
  ·obtain ⟨xo1, hxo1, hd⟩ := countY (show (o1_0 : Int) < (x0.length : Int) from c2)
   rw [hd, F93_l1] at h
   refine ww ?_
   refine t_idxF (enc := eTField) (xs := x0) rfl rfl hxo1 (by rw [eTField_u]; rfl) ?_
   refine ww ?_
   refine condSh h (fun c3 h => ?_) (fun c3 h => ?_)
   ·refine ww ?_
    obtain ⟨fh0o1, hfh0o1, rfl⟩ := Option.map_eq_some_iff.1 h
    have h := hfh0o1.trans h0o1
    cases h
    exact eF []
   ·refine ww ?_
    obtain ⟨y4, hy4, h⟩ := bi h
    refine t_idxF (enc := eTField) (xs := x1) rfl rfl hy4 (by rw [eTField_u]; rfl) ?_
    refine ww ?_
    obtain ⟨t5, ht5, h⟩ := bi h
    refine cN [] (F94_ok ih49 ht5) trivial ?_
    refine ww ?_
    refine condSh h (fun c6 h => ?_) (fun c6 h => ?_)
    ·refine ww ?_
     obtain ⟨fh0o1, hfh0o1, rfl⟩ := Option.map_eq_some_iff.1 h
     have h := hfh0o1.trans h0o1
     cases h
     exact eF []
    ·refine ww ?_
     rw [wrapN (by omega)]
     exact eL' (x0.length - (o1_0 + 1)) [] ⟨o1_0 + 1, ⟨by omega, rfl⟩, rfl, h⟩ (by omega)
  ·rw [countN (show ¬ ((o1_0 : Int) < (x0.length : Int)) from c2), F93_l1] at h
   refine ww ?_
   cases h
   exact eM [] ⟨_, rfl, rfl⟩
 ·rintro _ ⟨po1, rfl, rfl⟩
  clear ho
  dsimp only at h
  refine ww ?_
  refine condSh h (fun c8 h => ?_) (fun c8 h => ?_)
  ·refine ww ?_
   cases h
   exact eF []
  ·refine ww ?_
   cases h
   exact eF []

/- orchestrator/value.Compare -/
def F67 (rc49 : TValue → TValue → Option (Int)) (x0 : TValue) (x1 : TValue) : Option (Int) := (F91 x0.Kind x1.Kind).bind fun t1 => (F91 x0.N x1.N).bind fun t2 => (F73 x0.S x1.S).bind fun t3 => (F92 rc49 x0.List_ x1.List_).bind fun t4 => (F93 rc49 x0.Fields x1.Fields).bind fun t5 => (F90 ((lit [t1, t2, t3, t4, t5]))).bind fun t6 => some t6
def a67 : AFn := ⟨32, [(.tmp 4)],
 (.seq (.reg [sq 2 (.box (.t 0)),
sq 3 (.box (.t 1)),
sq 4 (.mv (kI 0))])
 (.seq (.regd [sq 5 (.fieldA 0 (.t 2)),
sd 6 (.load none (.t 5)) [0],
sq 7 (.fieldA 0 (.t 3)),
sd 8 (.load none (.t 7)) [2],
⟨(some 9), none, .call 91 [(.t 6), (.t 8)], [0, 1, 2, 3], (.new [0, 1, 2, 3])⟩,
sq 10 (.fieldA 1 (.t 2)),
sd 11 (.load none (.t 10)) [5],
sq 12 (.fieldA 1 (.t 3)),
sd 13 (.load none (.t 12)) [7],
⟨(some 14), none, .call 91 [(.t 11), (.t 13)], [0, 1, 2, 3, 4, 5, 6, 7, 8], (.new [0, 1, 2, 3, 4, 5, 6, 7, 8])⟩,
sq 15 (.fieldA 2 (.t 2)),
sd 16 (.load none (.t 15)) [10],
sq 17 (.fieldA 2 (.t 3)),
sd 18 (.load none (.t 17)) [12],
⟨(some 19), none, .call 73 [(.t 16), (.t 18)], [0, 1, 2, 3, 4, 5, 6, 7, 8, 9, 10, 11, 12, 13], (.new [0, 1, 2, 3, 4, 5, 6, 7, 8, 9, 10, 11, 12, 13])⟩,
sq 20 (.fieldA 3 (.t 2)),
sd 21 (.load none (.t 20)) [15],
sq 22 (.fieldA 3 (.t 3)),
sd 23 (.load none (.t 22)) [17],
⟨(some 24), none, .call 92 [(.t 21), (.t 23), (.f 67)], [0, 1, 2, 3, 4, 5, 6, 7, 8, 9, 10, 11, 12, 13, 14, 15, 16, 17, 18], (.new [0, 1, 2, 3, 4, 5, 6, 7, 8, 9, 10, 11, 12, 13, 14, 15, 16, 17, 18])⟩,
sq 25 (.fieldA 4 (.t 2)),
sd 26 (.load none (.t 25)) [20],
sq 27 (.fieldA 4 (.t 3)),
sd 28 (.load none (.t 27)) [22],
⟨(some 29), none, .call 93 [(.t 26), (.t 28), (.f 94)], [0, 1, 2, 3, 4, 5, 6, 7, 8, 9, 10, 11, 12, 13, 14, 15, 16, 17, 18, 19, 20, 21, 22, 23], (.lone [])⟩,
⟨(some 30), none, .bslice 1 [(.t 9), (.t 14), (.t 19), (.t 24), (.t 29)], [0, 1, 2, 3, 4, 5, 6, 7, 8, 9, 10, 11, 12, 13, 14, 15, 16, 17, 18, 19, 20, 21, 22, 23, 24], (.lone [])⟩,
⟨(some 31), none, .call 90 [(.t 30)], [0, 1, 2, 3, 4, 5, 6, 7, 8, 9, 10, 11, 12, 13, 14, 15, 16, 17, 18, 19, 20, 21, 22, 23, 24, 25], (.lone [])⟩,
sd 4 (.mv (.t 31)) [0, 1, 2, 3, 4, 5, 6, 7, 8, 9, 10, 11, 12, 13, 14, 15, 16, 17, 18, 19, 20, 21, 22, 23, 24, 25, 26]])
 .ret))⟩
theorem a67_ok : afn Try.prog 67 = some a67.er := by kernel_rfl
theorem F67_ok {rc49 : TValue → TValue → Option (Int)} (ih49 : ∀ {x0 : TValue} {x1 : TValue} {r : Int} (h : rc49 x0 x1 = some r), CallD Try.prog 67 [.agg [dI x0.Kind, dI x0.N, dS x0.S, dM (x0.List_.map eTValue), dM (x0.Fields.map eTField)], .agg [dI x1.Kind, dI x1.N, dS x1.S, dM (x1.List_.map eTValue), dM (x1.Fields.map eTField)]] [] (tupV [.c (dI r)]) [])  {x0 : TValue} {x1 : TValue} {r : Int} (h : F67 rc49 x0 x1 = some r) : CallD Try.prog 67 [.agg [dI x0.Kind, dI x0.N, dS x0.S, dM (x0.List_.map eTValue), dM (x0.Fields.map eTField)], .agg [dI x1.Kind, dI x1.N, dS x1.S, dM (x1.List_.map eTValue), dM (x1.Fields.map eTField)]] [] (tupV [.c (dI r)]) [] := by
 refine callS a67_ok (by simp [a67]) ?_
 rw [F67] at h
 simp only [a67, VW.down, Nat.reduceEqDiff, reduceCtorEq, Nat.reduceAdd, Nat.reduceLeDiff, Nat.reduceLT, Nat.reduceBEq, Nat.reduceSub, EE.down]
 obtain ⟨t1, ht1, h⟩ := bi h
 refine cN [] (F91_ok ht1) trivial ?_
 refine ww ?_
 obtain ⟨t2, ht2, h⟩ := bi h
 refine cN [] (F91_ok ht2) trivial ?_
 refine ww ?_
 obtain ⟨t3, ht3, h⟩ := bi h
 refine cN [] (F73_ok ht3) trivial ?_
 refine ww ?_
 obtain ⟨t4, ht4, h⟩ := bi h
 refine cN [] (F92_ok ih49 ht4) trivial ?_
 refine ww ?_
 obtain ⟨t5, ht5, h⟩ := bi h
 refine cN [] (F93_ok ih49 ht5) trivial ?_
 refine ww ?_
 refine t_bslice (enc := eI) (ys := (lit [t1, t2, t3, t4, t5])) rfl rfl (by simp [A1.cells]) (by first | rfl | (simp only [List.drop_zero, take_mapL]; rfl) | (simp only [lit, List.map_cons, List.map_nil, List.drop_zero, take_mapL, EE.down]; done) | (simp only [lit, List.map_cons, List.map_nil, List.drop_zero, take_mapL, EE.down]; rfl)) ?_
 refine ww ?_
 obtain ⟨t6, ht6, h⟩ := bi h
 refine callX_bor (F90_ok ht6) (by simp only [borAs, bors, hp, List.getElem?_cons_zero, List.getElem?_cons_succ, Option.join_some, List.drop_zero, bor_full', true_and, Nat.zero_add, List.length_map, Nat.le_refl, nrm, List.length_cons, List.length_nil, Nat.reduceAdd, Nat.reduceLeDiff, List.take_succ_cons, List.take_zero, List.take_nil, List.map_cons, List.map_nil, List.length_set, EE.down]) rfl ?_
 refine ww ?_
 cases h
 exact eF []
def F67k : Nat → TValue → TValue → Option (Int)
  | 0 => fun _ _ => none
  | k + 1 => F67 (F67k k)
theorem F67k_ok (k : Nat) {x0 : TValue} {x1 : TValue} {r : Int} (h : F67k k x0 x1 = some r) : CallD Try.prog 67 [.agg [dI x0.Kind, dI x0.N, dS x0.S, dM (x0.List_.map eTValue), dM (x0.Fields.map eTField)], .agg [dI x1.Kind, dI x1.N, dS x1.S, dM (x1.List_.map eTValue), dM (x1.Fields.map eTField)]] [] (tupV [.c (dI r)]) [] := by
  induction k generalizing x0 x1 r with
  | zero => cases (show (none : Option (Int)) = some _ from h)
  | succ k ih => exact F67_ok (fun h => ih h) h

/- orchestrator/value.Equal -/
def F35 (x0 : TValue) (x1 : TValue) : Option (Bool) := (F67k 1099511627776 x0 x1).bind fun t1 => some (decide (t1 = 0))
def a35 : AFn := ⟨9, [(.tmp 4)],
 (.seq (.reg [sq 2 (.box (.t 0)),
sq 3 (.box (.t 1)),
sq 4 (.mv (kB false))])
 (.seq (.reg [sq 5 (.load (some 5) (.t 2)),
sq 6 (.load (some 5) (.t 3)),
sq 7 (.call 67 [(.t 5), (.t 6)]),
sq 8 (.bin .eql (.t 7) (kI 0)),
sq 4 (.mv (.t 8))])
 .ret))⟩
theorem a35_ok : afn Try.prog 35 = some a35.er := by kernel_rfl
theorem F35_ok {x0 : TValue} {x1 : TValue} {r : Bool} (h : F35 x0 x1 = some r) : CallD Try.prog 35 [.agg [dI x0.Kind, dI x0.N, dS x0.S, dM (x0.List_.map eTValue), dM (x0.Fields.map eTField)], .agg [dI x1.Kind, dI x1.N, dS x1.S, dM (x1.List_.map eTValue), dM (x1.Fields.map eTField)]] [] (tupV [.c (dB r)]) [] := by
 refine callS a35_ok (by simp [a35]) ?_
 rw [F35] at h
 simp only [a35, VW.down, Nat.reduceEqDiff, reduceCtorEq, Nat.reduceAdd, Nat.reduceLeDiff, Nat.reduceLT, Nat.reduceBEq, Nat.reduceSub, EE.down]
 obtain ⟨t1, ht1, h⟩ := bi h
 refine cN [] (F67k_ok 1099511627776 ht1) trivial ?_
 refine ww ?_
 cases h
 exact eF []
end Go.Proofs.Ytbopaemngpbdgaa
