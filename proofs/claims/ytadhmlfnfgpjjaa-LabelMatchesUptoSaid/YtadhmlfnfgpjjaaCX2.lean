/- Each Go function as a function over typed data, and its walk. -/
import Derived.Test.YtadhmlfnfgpjjaaCX
namespace Go.Proofs.Ytadhmlfnfgpjjaa
open Go Go.Fw Go.Shelf
set_option maxRecDepth 100000
set_option maxHeartbeats 4000000
set_option linter.unusedSimpArgs false
set_option linter.unusedVariables false
/- orchestrator/label.Parse -/
def F24_l4  : Nat → (List Requirement) → (List ByteArray) → Bool → Bool → Option ((List Requirement) × Parser)
  | 0, _, _, _, _ => none
  | k + 1, o4_0, o4_1, o4_2, o4_3 => (((if o4_3 = true then some (nb o4_2) else some false)).bind fun o5 => (if o5 = true then (F42 ((⟨o4_1, o4_2⟩ : Parser))).bind fun t8 => (apI o4_0 ([(⟨t8.2.1, t8.2.2.1, t8.2.2.2⟩ : Requirement)])).bind fun a9 => (F41 ((⟨#[44]⟩ : ByteArray)) ((⟨(t8.1).tokens, (t8.1).failed⟩ : Parser))).bind fun t10 => F24_l4  k a9 t10.1 (((t8.1).failed)) t10.2 else some ((o4_0, (⟨o4_1, o4_2⟩ : Parser)))))
def F24_l14 (o4 : (List Requirement) × Parser) : List Requirement → Nat → Option (((List Requirement) × Int) ⊕ (Unit))
  | [], o14_0 => some (Sum.inr (()))
  | xo14 :: xs, o14_0 => (rdI o4.1 ((o14_0 : Int))).bind fun y16 => (F43 y16).bind fun t17 => (if ¬ (t17 = 0) then (some (([], t17))).map Sum.inl else F24_l14 o4 xs (o14_0 + 1))
def F24 (x0 : ByteArray) : Option ((List Requirement) × Int) := (if 20000 < (x0.size : Int) then some (([], 4)) else (F40 x0).bind fun t2 => (if (nb t2.2) = true then some (([], 2)) else ((F24_l4 1099511627776 ([]) t2.1 false (decide (0 < (t2.1.length : Int)))).bind fun o4 => (((if ((o4.2).failed) = true then some true else some (decide (0 < (((o4.2).tokens).length : Int))))).bind fun o11 => (if o11 = true then some (([], 2)) else (((ck (0 ≤ o4.1.length ∧ o4.1.length ≤ 4294967290)).bind fun u19 => F24_l14 o4 o4.1 0 : Option (((List Requirement) × Int) ⊕ (Unit))).bind fun o14 => match o14 with | Sum.inl f => some f | Sum.inr po14 => (if 16 < (o4.1.length : Int) then some (([], 4)) else some ((o4.1, 0)))))))))
def a24 : AFn := ⟨71, [(.tmp 2), (.tmp 3)],
 (.seq (.reg [⟨(some 2), none, .mv kN, [], (.new [])⟩,
   ⟨(some 3), none, .mv (kI 0), [], (.new [])⟩])
 (.seq (.seq (.reg [⟨(some 12), none, .mv (.t 0), [], (.new [])⟩,
   ⟨(some 13), none, .slen (.t 12), [], (.new [])⟩,
   ⟨(some 14), none, .bin .gtr (.t 13) (kI 20000), [], (.new [])⟩])
 (.cond (.t 14)
 (.seq (.reg [⟨(some 2), none, .mv kN, [], (.new [])⟩,
   ⟨(some 3), none, .mv (kI 4), [], (.new [])⟩])
 .ret)
 .skip))
 (.seq (.reg [⟨(some 16), none, .mv (.t 0), [], (.new [])⟩,
   ⟨(some 17), none, .call 40 [(.t 16)], [], (.new [])⟩,
   ⟨(some 15), none, .mv (.t 17), [], (.new [])⟩,
   ⟨(some 18), none, .ext (.t 15) 0, [], (.new [])⟩,
   ⟨(some 19), none, .ext (.t 15) 1, [], (.new [])⟩,
   ⟨(some 4), none, .mv (.t 18), [], (.new [])⟩,
   ⟨(some 5), none, .mv (.t 19), [], (.new [])⟩])
 (.seq (.seq (.reg [⟨(some 20), none, .mv (.t 5), [], (.new [])⟩,
   ⟨(some 21), none, .not (.t 20), [], (.new [])⟩])
 (.cond (.t 21)
 (.seq (.reg [⟨(some 2), none, .mv kN, [], (.new [])⟩,
   ⟨(some 3), none, .mv (kI 2), [], (.new [])⟩])
 .ret)
 .skip))
 (.seq (.reg [⟨(some 6), none, .mv kN, [], (.new [])⟩])
 (.seq (.reg [⟨(some 22), none, .mv (.t 4), [], (.new [])⟩,
   ⟨(some 23), none, .build [.d (.v (.slice none 0 0)), .d (.v (.bool false))] [(0, 1, (.t 22))], [], (.new [])⟩,
   ⟨(some 24), none, .box (.t 23), [], (.new [])⟩,
   ⟨(some 7), none, .mv (.t 24), [], (.new [])⟩])
 (.seq (.seq (.reg [⟨(some 25), none, .mv (.t 4), [], (.new [])⟩,
   ⟨(some 26), none, .len (.t 25), [], (.new [])⟩,
   ⟨(some 27), none, .bin .gtr (.t 26) (kI 0), [], (.new [])⟩,
   ⟨(some 8), none, .mv (.t 27), [], (.new [])⟩])
 (.sem (.block 0 (.loop (.seq (.seq (.sem (.reg [⟨(some 28), none, .mv (.t 8), [], (.new [])⟩,
   ⟨(some 29), none, .mv (.t 28), [], (.new [])⟩,
   ⟨(some 30), (some (29, true)), .mv (.t 7), [], (.new [])⟩,
   ⟨(some 31), (some (29, true)), .fieldA 0 (.t 30), [], (.new [])⟩,
   ⟨(some 32), (some (29, true)), .fieldA 1 (.t 31), [], (.new [])⟩,
   ⟨(some 33), (some (29, true)), .load none (.t 32), [], (.new [])⟩,
   ⟨(some 34), (some (29, true)), .not (.t 33), [], (.new [])⟩,
   ⟨(some 35), none, .pick (.t 29) (.t 34) (kB false), [], (.lone [30, 31, 32])⟩]))
 (.cond (.t 35)
 .skip
 (.exit 0)))
 (.seq (.block 1 (.reg [⟨(some 38), none, .mv (.t 6), [], (.new [])⟩,
   ⟨(some 39), none, .mv (.t 7), [], (.new [])⟩,
   ⟨(some 40), none, .call 42 [(.t 39)], [], (.new [])⟩,
   ⟨(some 41), none, .bslice 3 [(.t 40)], [], (.new [])⟩,
   ⟨(some 42), none, .app 3 48 (.t 38) (.t 41), [], (.new [])⟩,
   ⟨(some 6), none, .mv (.t 42), [], (.new [])⟩]))
 (.reg [⟨(some 36), none, .mv (.t 7), [], (.new [])⟩,
   ⟨(some 37), none, .call 41 [(.t 36), (kS ⟨#[44]⟩)], [], (.new [])⟩,
   ⟨(some 8), none, .mv (.t 37), [], (.new [])⟩])))))))
 (.seq (.seq (.sem (.reg [⟨(some 43), none, .mv (.t 7), [], (.new [])⟩,
   ⟨(some 44), none, .fieldA 0 (.t 43), [], (.new [])⟩,
   ⟨(some 45), none, .fieldA 1 (.t 44), [], (.new [])⟩,
   ⟨(some 46), none, .load none (.t 45), [], (.new [])⟩,
   ⟨(some 47), none, .mv (.t 46), [], (.new [])⟩,
   ⟨(some 48), (some (47, false)), .mv (.t 7), [], (.new [])⟩,
   ⟨(some 49), (some (47, false)), .fieldA 0 (.t 48), [], (.new [])⟩,
   ⟨(some 50), (some (47, false)), .fieldA 0 (.t 49), [], (.new [])⟩,
   ⟨(some 51), (some (47, false)), .load none (.t 50), [], (.new [])⟩,
   ⟨(some 52), (some (47, false)), .len (.t 51), [], (.new [])⟩,
   ⟨(some 53), (some (47, false)), .bin .gtr (.t 52) (kI 0), [], (.new [])⟩,
   ⟨(some 54), none, .pick (.t 47) (kB true) (.t 53), [], (.lone [43, 44, 45, 48, 49, 50, 51])⟩]))
 (.cond (.t 54)
 (.seq (.reg [⟨(some 2), none, .mv kN, [], (.new [])⟩,
   ⟨(some 3), none, .mv (kI 2), [], (.new [])⟩])
 .ret)
 .skip))
 (.seq (.seq (.reg [⟨(some 55), none, .mv (.t 6), [], (.new [])⟩,
   ⟨(some 56), none, .len (.t 55), [], (.new [])⟩,
   ⟨(some 57), none, .mv (kI 0), [], (.new [])⟩])
 (.sem (.block 2 (.loop (.seq (.reg [⟨(some 58), none, .bin .lss (.t 57) (.t 56), [], (.new [])⟩])
 (.seq (.cond (.t 58)
 .skip
 (.exit 2))
 (.seq (.block 3 (.seq (.reg [⟨(some 59), none, .indexA 3 (.t 55) (.t 57), [], (.new [])⟩,
   ⟨(some 60), none, .load (some 3) (.t 59), [], (.new [])⟩,
   ⟨(some 10), none, .zbox [.d (.v (.string ⟨#[]⟩)), .d (.v (.int .i64 0)), .d (.v (.slice none 0 0))], [], (.new [])⟩,
   ⟨none, none, .store 3 (.t 10) (.t 60), [], (.new [])⟩])
 (.seq (.reg [⟨(some 61), none, .load (some 3) (.t 10), [], (.new [])⟩,
   ⟨(some 62), none, .call 43 [(.t 61)], [], (.new [])⟩,
   ⟨(some 11), none, .mv (.t 62), [], (.new [])⟩])
 (.seq (.reg [⟨(some 63), none, .mv (.t 11), [], (.new [])⟩,
   ⟨(some 64), none, .bin .neq (.t 63) (kI 0), [], (.new [])⟩])
 (.cond (.t 64)
 (.seq (.reg [⟨(some 65), none, .mv (.t 11), [], (.new [])⟩,
   ⟨(some 2), none, .mv kN, [], (.new [])⟩,
   ⟨(some 3), none, .mv (.t 65), [], (.new [])⟩])
 .ret)
 .skip)))))
 (.reg [⟨(some 66), none, .bin .add (.t 57) (kI 1), [], (.new [])⟩,
   ⟨(some 57), none, .mv (.t 66), [], (.new [])⟩]))))))))
 (.seq (.seq (.reg [⟨(some 67), none, .mv (.t 6), [], (.new [])⟩,
   ⟨(some 68), none, .len (.t 67), [], (.new [])⟩,
   ⟨(some 69), none, .bin .gtr (.t 68) (kI 16), [], (.new [])⟩])
 (.cond (.t 69)
 (.seq (.reg [⟨(some 2), none, .mv kN, [], (.new [])⟩,
   ⟨(some 3), none, .mv (kI 4), [], (.new [])⟩])
 .ret)
 .skip))
 (.seq (.reg [⟨(some 70), none, .mv (.t 6), [], (.new [])⟩,
   ⟨(some 2), none, .mv (.t 70), [], (.new [])⟩,
   ⟨(some 3), none, .mv (kI 0), [], (.new [])⟩])
 .ret)))))))))))⟩
theorem a24_ok : afn Try.prog 24 = some a24.er := by kernel_rfl
theorem F24_ok {x0 : ByteArray} {r : (List Requirement) × Int} (h : F24 x0 = some r) : CallD Try.prog 24 [.c (.d (.v (.string x0)))] [] (tupV [.c (.own 0 0 0 (r.1.length) none), .c (.d (.v (.int .i64 r.2)))]) [some (.arr 0 3 (r.1.map eRequirement))] := by
  refine callS a24_ok (by simp [a24]) ?_
  rw [F24] at h
  simp only [a24, VW.down, Nat.reduceEqDiff, reduceCtorEq, Nat.reduceAdd, Nat.reduceLeDiff, Nat.reduceLT, Nat.reduceBEq, Nat.reduceSub, EE.down]
  refine condS (fun c1 => ?_) (fun c1 => ?_)
  · have h := (if_pos c1).symm.trans h
    simp only [VW.down, Nat.reduceEqDiff, reduceCtorEq, Nat.reduceAdd, Nat.reduceLeDiff, Nat.reduceLT, Nat.reduceBEq, Nat.reduceSub, EE.down]
    obtain rfl := Option.some.inj h
    exact eF [none]
  · have h := (if_neg c1).symm.trans h
    simp only [VW.down, Nat.reduceEqDiff, reduceCtorEq, Nat.reduceAdd, Nat.reduceLeDiff, Nat.reduceLT, Nat.reduceBEq, Nat.reduceSub, EE.down]
    obtain ⟨t2, ht2, h⟩ := Option.bind_eq_some_iff.1 h
    refine callX_n [] (F40_ok ht2) ?_ ?_ ?_ ?_ ?_ ?_
    · first | rfl | simp [nrmA, nrmC, nrm, A1.ren, C.ren, rn, List.length_set]
    · simp [liveAll, A1.live, C.live]
    · rfl
    · decide
    · exact trivial
    simp only [VW.down, Nat.reduceEqDiff, reduceCtorEq, Nat.reduceAdd, Nat.reduceLeDiff, Nat.reduceLT, Nat.reduceBEq, Nat.reduceSub, EE.down]
    refine condB (fun c3 => ?_) (fun c3 => ?_)
    · have h := (if_pos c3).symm.trans h
      simp only [VW.down, Nat.reduceEqDiff, reduceCtorEq, Nat.reduceAdd, Nat.reduceLeDiff, Nat.reduceLT, Nat.reduceBEq, Nat.reduceSub, EE.down]
      obtain rfl := Option.some.inj h
      exact eF [none]
    · have h := (if_neg c3).symm.trans h
      simp only [VW.down, Nat.reduceEqDiff, reduceCtorEq, Nat.reduceAdd, Nat.reduceLeDiff, Nat.reduceLT, Nat.reduceBEq, Nat.reduceSub, EE.down]
      obtain ⟨o4, ho, h⟩ := Option.bind_eq_some_iff.1 h
      refine cutS (fun s => s = ⟨[(6, .one (.c (.own 0 0 0 (o4.1.length) none))), (7, .one (.c (.pt 1 0)))], [some (.arr 0 3 (o4.1.map eRequirement)), some (.box [.d (.sl (((o4.2).tokens).map eS)), .d (.v (.bool ((o4.2).failed)))])]⟩) ?_ ?_
      · have h := ho
        clear ho
        simp only [VW.down, Nat.reduceEqDiff, reduceCtorEq, Nat.reduceAdd, Nat.reduceLeDiff, Nat.reduceLT, Nat.reduceBEq, Nat.reduceSub, EE.down]
        refine bL (fun j s => ∃ (o4_0 : List Requirement) (o4_1 : List ByteArray) (o4_2 : Bool) (o4_3 : Bool), s = ⟨[(6, .one (.c (.own 0 0 0 (o4_0.length) none))), (7, .one (.c (.pt 1 0))), (8, .one (.c (.d (.v (.bool o4_3)))))], [some (.arr 0 3 (o4_0.map eRequirement)), some (.box [.d (.sl (o4_1.map eS)), .d (.v (.bool o4_2))])]⟩ ∧ F24_l4 j o4_0 o4_1 o4_2 o4_3 = some o4) 1099511627776 [none, some 1] ⟨[], t2.1, false, decide (0 < (t2.1.length : Int)), rfl, h⟩ ?_
        rintro j _ ⟨o4_0, o4_1, o4_2, o4_3, rfl, h⟩
        cases j with
        | zero => cases (show (none : Option _) = some _ from h)
        | succ j =>
          rw [F24_l4] at h
          simp only [VW.down, Nat.reduceEqDiff, reduceCtorEq, Nat.reduceAdd, Nat.reduceLeDiff, Nat.reduceLT, Nat.reduceBEq, Nat.reduceSub, EE.down]
          obtain ⟨o5, ho, h⟩ := Option.bind_eq_some_iff.1 h
          refine cutS (fun s => s = ⟨[(6, .one (.c (.own 0 0 0 (o4_0.length) none))), (7, .one (.c (.pt 1 0))), (35, .one (.c (.d (.v (.bool o5)))))], [some (.arr 0 3 (o4_0.map eRequirement)), some (.box [.d (.sl (o4_1.map eS)), .d (.v (.bool o4_2))])]⟩) ?_ ?_
          · have h := ho
            clear ho
            simp only [VW.down, Nat.reduceEqDiff, reduceCtorEq, Nat.reduceAdd, Nat.reduceLeDiff, Nat.reduceLT, Nat.reduceBEq, Nat.reduceSub, EE.down]
            refine guardSB (fun g6 => ?_) (fun g6 => ?_)
            · have h := (if_pos g6).symm.trans h
              simp only [VW.down, Nat.reduceEqDiff, reduceCtorEq, Nat.reduceAdd, Nat.reduceLeDiff, Nat.reduceLT, Nat.reduceBEq, Nat.reduceSub, EE.down]
              obtain rfl := Option.some.inj h
              exact eM [some 0, some 1] rfl
            · have h := (if_neg g6).symm.trans h
              simp only [VW.down, Nat.reduceEqDiff, reduceCtorEq, Nat.reduceAdd, Nat.reduceLeDiff, Nat.reduceLT, Nat.reduceBEq, Nat.reduceSub, EE.down]
              obtain rfl := Option.some.inj h
              exact eM [some 0, some 1] rfl
          · rintro _ rfl
            clear ho
            simp only [VW.down, Nat.reduceEqDiff, reduceCtorEq, Nat.reduceAdd, Nat.reduceLeDiff, Nat.reduceLT, Nat.reduceBEq, Nat.reduceSub, EE.down]
            refine condB (fun c7 => ?_) (fun c7 => ?_)
            · have h := (if_pos c7).symm.trans h
              simp only [VW.down, Nat.reduceEqDiff, reduceCtorEq, Nat.reduceAdd, Nat.reduceLeDiff, Nat.reduceLT, Nat.reduceBEq, Nat.reduceSub, EE.down]
              obtain ⟨t8, ht8, h⟩ := Option.bind_eq_some_iff.1 h
              refine callX_n [1] (F42_ok ht8) ?_ ?_ ?_ ?_ ?_ ?_
              · first | rfl | simp [nrmA, nrmC, nrm, A1.ren, C.ren, rn, List.length_set]
              · simp [liveAll, A1.live, C.live, hp]
              · rfl
              · decide
              · exact ⟨⟨rfl, by simp [Blk.live, C.live, hp]⟩, trivial⟩
              simp only [VW.down, Nat.reduceEqDiff, reduceCtorEq, Nat.reduceAdd, Nat.reduceLeDiff, Nat.reduceLT, Nat.reduceBEq, Nat.reduceSub, EE.down]
              refine t_bslice (enc := eRequirement) (ys := [(⟨t8.2.1, t8.2.2.1, t8.2.2.2⟩ : Requirement)]) rfl rfl (by simp [A1.cells]) (by first | rfl | (simp only [List.drop_zero, take_mapL]; rfl)) ?_
              simp only [VW.down, Nat.reduceEqDiff, reduceCtorEq, Nat.reduceAdd, Nat.reduceLeDiff, Nat.reduceLT, Nat.reduceBEq, Nat.reduceSub, EE.down]
              obtain ⟨a9, ha9, h⟩ := Option.bind_eq_some_iff.1 h
              refine t_app (enc := eRequirement) (xs := o4_0) rfl rfl (by first | rfl | simp only [List.length_set] | exact (clrL_len (slI_len (by assumption))).symm) rfl (rows_full (enc := eRequirement) (by first | rfl | simp only [List.length_set] | exact (clrL_len (slI_len (by assumption))).symm) rfl) ha9 ?_
              simp only [VW.down, Nat.reduceEqDiff, reduceCtorEq, Nat.reduceAdd, Nat.reduceLeDiff, Nat.reduceLT, Nat.reduceBEq, Nat.reduceSub, EE.down]
              obtain ⟨t10, ht10, h⟩ := Option.bind_eq_some_iff.1 h
              refine callX_n [1] (F41_ok ht10) ?_ ?_ ?_ ?_ ?_ ?_
              · first | rfl | simp [nrmA, nrmC, nrm, A1.ren, C.ren, rn, List.length_set]
              · simp [liveAll, A1.live, C.live, hp]
              · rfl
              · decide
              · exact ⟨⟨rfl, by simp [Blk.live, C.live, hp]⟩, trivial⟩
              simp only [VW.down, Nat.reduceEqDiff, reduceCtorEq, Nat.reduceAdd, Nat.reduceLeDiff, Nat.reduceLT, Nat.reduceBEq, Nat.reduceSub, EE.down]
              exact eL' j [some 0, some 1] ⟨a9, t10.1, ((t8.1).failed), t10.2, rfl, h⟩ (Nat.lt_succ_self _)
            · have h := (if_neg c7).symm.trans h
              simp only [VW.down, Nat.reduceEqDiff, reduceCtorEq, Nat.reduceAdd, Nat.reduceLeDiff, Nat.reduceLT, Nat.reduceBEq, Nat.reduceSub, EE.down]
              obtain rfl := Option.some.inj h
              exact eM [some 0, some 1] rfl
      · rintro _ rfl
        clear ho
        simp only [VW.down, Nat.reduceEqDiff, reduceCtorEq, Nat.reduceAdd, Nat.reduceLeDiff, Nat.reduceLT, Nat.reduceBEq, Nat.reduceSub, EE.down]
        obtain ⟨o11, ho, h⟩ := Option.bind_eq_some_iff.1 h
        refine cutS (fun s => s = ⟨[(6, .one (.c (.own 0 0 0 (o4.1.length) none))), (54, .one (.c (.d (.v (.bool o11)))))], [some (.arr 0 3 (o4.1.map eRequirement))]⟩) ?_ ?_
        · have h := ho
          clear ho
          simp only [VW.down, Nat.reduceEqDiff, reduceCtorEq, Nat.reduceAdd, Nat.reduceLeDiff, Nat.reduceLT, Nat.reduceBEq, Nat.reduceSub, EE.down]
          refine guardSB (fun g12 => ?_) (fun g12 => ?_)
          · have h := (if_pos g12).symm.trans h
            simp only [VW.down, Nat.reduceEqDiff, reduceCtorEq, Nat.reduceAdd, Nat.reduceLeDiff, Nat.reduceLT, Nat.reduceBEq, Nat.reduceSub, EE.down]
            obtain rfl := Option.some.inj h
            exact eM [some 0] rfl
          · have h := (if_neg g12).symm.trans h
            simp only [VW.down, Nat.reduceEqDiff, reduceCtorEq, Nat.reduceAdd, Nat.reduceLeDiff, Nat.reduceLT, Nat.reduceBEq, Nat.reduceSub, EE.down]
            obtain rfl := Option.some.inj h
            exact eM [some 0] rfl
        · rintro _ rfl
          clear ho
          simp only [VW.down, Nat.reduceEqDiff, reduceCtorEq, Nat.reduceAdd, Nat.reduceLeDiff, Nat.reduceLT, Nat.reduceBEq, Nat.reduceSub, EE.down]
          refine condB (fun c13 => ?_) (fun c13 => ?_)
          · have h := (if_pos c13).symm.trans h
            simp only [VW.down, Nat.reduceEqDiff, reduceCtorEq, Nat.reduceAdd, Nat.reduceLeDiff, Nat.reduceLT, Nat.reduceBEq, Nat.reduceSub, EE.down]
            obtain rfl := Option.some.inj h
            exact eF [none]
          · have h := (if_neg c13).symm.trans h
            simp only [VW.down, Nat.reduceEqDiff, reduceCtorEq, Nat.reduceAdd, Nat.reduceLeDiff, Nat.reduceLT, Nat.reduceBEq, Nat.reduceSub, EE.down]
            obtain ⟨o14, ho, h⟩ := Option.bind_eq_some_iff.1 h
            refine cutS (fun s => ∃ po14, o14 = Sum.inr po14 ∧ s = ⟨[(6, .one (.c (.own 0 0 0 (o4.1.length) none)))], [some (.arr 0 3 (o4.1.map eRequirement))]⟩) ?_ ?_
            · have h0o14 := h
              have h := ho
              clear ho
              obtain ⟨_, hk, h⟩ := Option.bind_eq_some_iff.1 h
              have hk := ck_some hk
              simp only [VW.down, Nat.reduceEqDiff, reduceCtorEq, Nat.reduceAdd, Nat.reduceLeDiff, Nat.reduceLT, Nat.reduceBEq, Nat.reduceSub, EE.down]
              refine bL (fun j s => ∃ (o14_0 : Nat), (o14_0 ≤ o4.1.length ∧ j = o4.1.length - o14_0) ∧ s = ⟨[(6, .one (.c (.own 0 0 0 (o4.1.length) none))), (55, .one (.c (.own 0 0 0 (o4.1.length) none))), (56, .one (.c (.d (.v (.int .i64 ((o4.1.length : Int))))))), (57, .one (.c (.d (.v (.int .i64 ((o14_0 : Int)))))))], [some (.arr 0 3 (o4.1.map eRequirement))]⟩ ∧ F24_l14 o4 (o4.1.drop o14_0) o14_0 = some o14) (o4.1.length - 0) [some 0] ⟨0, ⟨hk.1, rfl⟩, rfl, h⟩ ?_
              rintro _ _ ⟨o14_0, ⟨hi, rfl⟩, rfl, h⟩
              simp only [VW.down, Nat.reduceEqDiff, reduceCtorEq, Nat.reduceAdd, Nat.reduceLeDiff, Nat.reduceLT, Nat.reduceBEq, Nat.reduceSub, EE.down]
              refine condS (fun c15 => ?_) (fun c15 => ?_)
              · obtain ⟨xo14, hxo14, hd⟩ := countY (show (o14_0 : Int) < (o4.1.length : Int) from c15)
                rw [hd, F24_l14] at h
                simp only [VW.down, Nat.reduceEqDiff, reduceCtorEq, Nat.reduceAdd, Nat.reduceLeDiff, Nat.reduceLT, Nat.reduceBEq, Nat.reduceSub, EE.down]
                obtain ⟨y16, hy16, h⟩ := Option.bind_eq_some_iff.1 h
                refine t_idxO (enc := eRequirement) (xs := o4.1) rfl rfl rfl (by first | rfl | simp only [List.length_set] | exact (clrL_len (slI_len (by assumption))).symm) hy16 ?_
                simp only [VW.down, Nat.reduceEqDiff, reduceCtorEq, Nat.reduceAdd, Nat.reduceLeDiff, Nat.reduceLT, Nat.reduceBEq, Nat.reduceSub, EE.down]
                refine LdRow.rd (rdI_some hy16).2.1 ?_
                simp only [VW.down, Nat.reduceEqDiff, reduceCtorEq, Nat.reduceAdd, Nat.reduceLeDiff, Nat.reduceLT, Nat.reduceBEq, Nat.reduceSub, EE.down]
                obtain ⟨t17, ht17, h⟩ := Option.bind_eq_some_iff.1 h
                refine callX_n [] (F43_ok ht17) ?_ ?_ ?_ ?_ ?_ ?_
                · first | rfl | simp [nrmA, nrmC, nrm, A1.ren, C.ren, rn, List.length_set]
                · simp [liveAll, A1.live, C.live]
                · rfl
                · decide
                · exact trivial
                simp only [VW.down, Nat.reduceEqDiff, reduceCtorEq, Nat.reduceAdd, Nat.reduceLeDiff, Nat.reduceLT, Nat.reduceBEq, Nat.reduceSub, EE.down]
                refine condS (fun c18 => ?_) (fun c18 => ?_)
                · have h := (if_pos c18).symm.trans h
                  simp only [VW.down, Nat.reduceEqDiff, reduceCtorEq, Nat.reduceAdd, Nat.reduceLeDiff, Nat.reduceLT, Nat.reduceBEq, Nat.reduceSub, EE.down]
                  obtain ⟨fh0o14, hfh0o14, rfl⟩ := Option.map_eq_some_iff.1 h
                  have h := hfh0o14.trans h0o14
                  obtain rfl := Option.some.inj h
                  exact eF [none]
                · have h := (if_neg c18).symm.trans h
                  simp only [VW.down, Nat.reduceEqDiff, reduceCtorEq, Nat.reduceAdd, Nat.reduceLeDiff, Nat.reduceLT, Nat.reduceBEq, Nat.reduceSub, EE.down]
                  rw [wrapN (by omega)]
                  exact eL' (o4.1.length - (o14_0 + 1)) [some 0] ⟨o14_0 + 1, ⟨by omega, rfl⟩, rfl, h⟩ (by omega)
              · rw [countN (show ¬ ((o14_0 : Int) < (o4.1.length : Int)) from c15), F24_l14] at h
                simp only [VW.down, Nat.reduceEqDiff, reduceCtorEq, Nat.reduceAdd, Nat.reduceLeDiff, Nat.reduceLT, Nat.reduceBEq, Nat.reduceSub, EE.down]
                obtain rfl := Option.some.inj h
                exact eM [some 0] ⟨_, rfl, rfl⟩
            · rintro _ ⟨po14, rfl, rfl⟩
              clear ho
              dsimp only at h
              simp only [VW.down, Nat.reduceEqDiff, reduceCtorEq, Nat.reduceAdd, Nat.reduceLeDiff, Nat.reduceLT, Nat.reduceBEq, Nat.reduceSub, EE.down]
              refine condS (fun c20 => ?_) (fun c20 => ?_)
              · have h := (if_pos c20).symm.trans h
                simp only [VW.down, Nat.reduceEqDiff, reduceCtorEq, Nat.reduceAdd, Nat.reduceLeDiff, Nat.reduceLT, Nat.reduceBEq, Nat.reduceSub, EE.down]
                obtain rfl := Option.some.inj h
                exact eF [none]
              · have h := (if_neg c20).symm.trans h
                simp only [VW.down, Nat.reduceEqDiff, reduceCtorEq, Nat.reduceAdd, Nat.reduceLeDiff, Nat.reduceLT, Nat.reduceBEq, Nat.reduceSub, EE.down]
                obtain rfl := Option.some.inj h
                exact eF [some 0]

/- orchestrator/label.hasValues -/
def F54 (x0 : Int) : Option (Bool) := (((if x0 = 1 then some true else some (decide (x0 = 2)))).bind fun o1 => some o1)
def a54 : AFn := ⟨9, [(.tmp 2)],
 (.seq (.reg [⟨(some 2), none, .mv (kB false), [], (.new [])⟩])
 (.seq (.sem (.reg [⟨(some 3), none, .mv (.t 0), [], (.new [])⟩,
   ⟨(some 4), none, .bin .eql (.t 3) (kI 1), [], (.new [])⟩,
   ⟨(some 5), none, .mv (.t 4), [], (.new [])⟩,
   ⟨(some 6), (some (5, false)), .mv (.t 0), [], (.new [])⟩,
   ⟨(some 7), (some (5, false)), .bin .eql (.t 6) (kI 2), [], (.new [])⟩,
   ⟨(some 8), none, .pick (.t 5) (kB true) (.t 7), [], (.new [])⟩,
   ⟨(some 2), none, .mv (.t 8), [], (.new [])⟩]))
 .ret))⟩
theorem a54_ok : afn Try.prog 54 = some a54.er := by kernel_rfl
theorem F54_ok {x0 : Int} {r : Bool} (h : F54 x0 = some r) : CallD Try.prog 54 [.c (.d (.v (.int .i64 x0)))] [] (tupV [.c (.d (.v (.bool r)))]) [] := by
  refine callS a54_ok (by simp [a54]) ?_
  rw [F54] at h
  simp only [a54, VW.down, Nat.reduceEqDiff, reduceCtorEq, Nat.reduceAdd, Nat.reduceLeDiff, Nat.reduceLT, Nat.reduceBEq, Nat.reduceSub, EE.down]
  obtain ⟨o1, ho, h⟩ := Option.bind_eq_some_iff.1 h
  refine cutS (fun s => s = ⟨[(2, .one (.c (.d (.v (.bool o1)))))], []⟩) ?_ ?_
  · have h := ho
    clear ho
    simp only [VW.down, Nat.reduceEqDiff, reduceCtorEq, Nat.reduceAdd, Nat.reduceLeDiff, Nat.reduceLT, Nat.reduceBEq, Nat.reduceSub, EE.down]
    refine guardS (fun g2 => ?_) (fun g2 => ?_)
    · have h := (if_pos g2).symm.trans h
      simp only [VW.down, Nat.reduceEqDiff, reduceCtorEq, Nat.reduceAdd, Nat.reduceLeDiff, Nat.reduceLT, Nat.reduceBEq, Nat.reduceSub, EE.down]
      obtain rfl := Option.some.inj h
      exact eM [] rfl
    · have h := (if_neg g2).symm.trans h
      simp only [VW.down, Nat.reduceEqDiff, reduceCtorEq, Nat.reduceAdd, Nat.reduceLeDiff, Nat.reduceLT, Nat.reduceBEq, Nat.reduceSub, EE.down]
      obtain rfl := Option.some.inj h
      exact eM [] rfl
  · rintro _ rfl
    clear ho
    simp only [VW.down, Nat.reduceEqDiff, reduceCtorEq, Nat.reduceAdd, Nat.reduceLeDiff, Nat.reduceLT, Nat.reduceBEq, Nat.reduceSub, EE.down]
    obtain rfl := Option.some.inj h
    exact eF []

/- orchestrator/label.validRequirement -/
def F35_l11 (x0 : Requirement) : List ByteArray → Nat → Option ((Bool) ⊕ (Unit))
  | [], o11_0 => some (Sum.inr (()))
  | xo11 :: xs, o11_0 => (((F30 xo11).bind fun t14 => (if (nb t14) = true then some true else (if 0 < (o11_0 : Int) then (rdI x0.Values ((IntKind.i64.wrap (((o11_0 : Int)) - 1)))).bind fun y17 => some ((Op.bytesLess xo11.toList y17.toList || decide (xo11 = y17))) else some false))).bind fun o13 => (if o13 = true then (some false).map Sum.inl else F35_l11 x0 xs (o11_0 + 1)))
def F35 (x0 : Requirement) : Option (Bool) := (F29 x0.Key).bind fun t1 => (if (nb t1) = true then some false else (F54 x0.Op).bind fun t3 => (if (nb t3) = true then (((if x0.Op = 3 then some (decide ((x0.Values.length : Int) = 0)) else (if x0.Op = 4 then some (decide ((x0.Values.length : Int) = 0)) else some false))).bind fun o5 => some o5) else (((if (x0.Values.length : Int) < 1 then some true else some (decide (64 < (x0.Values.length : Int))))).bind fun o8 => (if o8 = true then some false else (((ck (0 ≤ x0.Values.length ∧ x0.Values.length ≤ 4294967290)).bind fun u19 => F35_l11 x0 x0.Values 0 : Option ((Bool) ⊕ (Unit))).bind fun o11 => match o11 with | Sum.inl f => some f | Sum.inr po11 => some true)))))
def a35 : AFn := ⟨63, [(.tmp 2)],
 (.seq (.reg [⟨(some 1), none, .box (.t 0), [], (.new [])⟩,
   ⟨(some 2), none, .mv (kB false), [], (.new [])⟩])
 (.seq (.seq (.reg [⟨(some 5), none, .fieldA 0 (.t 1), [], (.new [])⟩,
   ⟨(some 6), none, .load none (.t 5), [], (.new [])⟩,
   ⟨(some 7), none, .call 29 [(.t 6)], [], (.new [])⟩,
   ⟨(some 8), none, .not (.t 7), [], (.new [])⟩])
 (.cond (.t 8)
 (.seq (.reg [⟨(some 2), none, .mv (kB false), [], (.new [])⟩])
 .ret)
 .skip))
 (.seq (.seq (.reg [⟨(some 9), none, .fieldA 1 (.t 1), [], (.new [])⟩,
   ⟨(some 10), none, .load none (.t 9), [], (.new [])⟩,
   ⟨(some 11), none, .call 54 [(.t 10)], [], (.new [])⟩,
   ⟨(some 12), none, .not (.t 11), [], (.new [])⟩])
 (.cond (.t 12)
 (.seq (.sem (.reg [⟨(some 13), none, .fieldA 1 (.t 1), [], (.new [])⟩,
   ⟨(some 14), none, .load none (.t 13), [], (.new [])⟩,
   ⟨(some 15), none, .bin .eql (.t 14) (kI 3), [], (.new [])⟩,
   ⟨(some 16), none, .mv (.t 15), [], (.new [])⟩,
   ⟨(some 17), (some (16, false)), .fieldA 1 (.t 1), [], (.new [])⟩,
   ⟨(some 18), (some (16, false)), .load none (.t 17), [], (.new [])⟩,
   ⟨(some 19), (some (16, false)), .bin .eql (.t 18) (kI 4), [], (.new [])⟩,
   ⟨(some 20), none, .pick (.t 16) (kB true) (.t 19), [], (.new [])⟩,
   ⟨(some 21), none, .mv (.t 20), [], (.new [])⟩,
   ⟨(some 22), (some (21, true)), .fieldA 2 (.t 1), [], (.new [])⟩,
   ⟨(some 23), (some (21, true)), .load none (.t 22), [], (.new [])⟩,
   ⟨(some 24), (some (21, true)), .len (.t 23), [], (.new [])⟩,
   ⟨(some 25), (some (21, true)), .bin .eql (.t 24) (kI 0), [], (.new [])⟩,
   ⟨(some 26), none, .pick (.t 21) (.t 25) (kB false), [], (.new [])⟩,
   ⟨(some 2), none, .mv (.t 26), [], (.new [])⟩]))
 .ret)
 .skip))
 (.seq (.seq (.sem (.reg [⟨(some 27), none, .fieldA 2 (.t 1), [], (.new [])⟩,
   ⟨(some 28), none, .load none (.t 27), [], (.new [])⟩,
   ⟨(some 29), none, .len (.t 28), [], (.new [])⟩,
   ⟨(some 30), none, .bin .lss (.t 29) (kI 1), [], (.new [])⟩,
   ⟨(some 31), none, .mv (.t 30), [], (.new [])⟩,
   ⟨(some 32), (some (31, false)), .fieldA 2 (.t 1), [], (.new [])⟩,
   ⟨(some 33), (some (31, false)), .load none (.t 32), [], (.new [])⟩,
   ⟨(some 34), (some (31, false)), .len (.t 33), [], (.new [])⟩,
   ⟨(some 35), (some (31, false)), .bin .gtr (.t 34) (kI 64), [], (.new [])⟩,
   ⟨(some 36), none, .pick (.t 31) (kB true) (.t 35), [], (.lone [1, 27, 28, 1, 32, 33])⟩]))
 (.cond (.t 36)
 (.seq (.reg [⟨(some 2), none, .mv (kB false), [], (.new [])⟩])
 .ret)
 .skip))
 (.seq (.seq (.reg [⟨(some 37), none, .fieldA 2 (.t 1), [], (.new [])⟩,
   ⟨(some 38), none, .load none (.t 37), [], (.new [])⟩,
   ⟨(some 39), none, .len (.t 38), [], (.new [])⟩,
   ⟨(some 40), none, .mv (kI 0), [], (.new [])⟩])
 (.sem (.block 0 (.loop (.seq (.reg [⟨(some 41), none, .bin .lss (.t 40) (.t 39), [], (.new [])⟩])
 (.seq (.cond (.t 41)
 .skip
 (.exit 0))
 (.seq (.block 1 (.seq (.reg [⟨(some 42), none, .mv (.t 40), [], (.new [])⟩,
   ⟨(some 43), none, .indexA 1 (.t 38) (.t 40), [], (.new [])⟩,
   ⟨(some 44), none, .load none (.t 43), [], (.new [])⟩,
   ⟨(some 3), none, .mv (.t 42), [], (.new [])⟩,
   ⟨(some 4), none, .mv (.t 44), [], (.new [])⟩])
 (.seq (.sem (.reg [⟨(some 45), none, .mv (.t 4), [], (.new [])⟩,
   ⟨(some 46), none, .call 30 [(.t 45)], [], (.new [])⟩,
   ⟨(some 47), none, .not (.t 46), [], (.new [])⟩,
   ⟨(some 48), none, .mv (.t 47), [], (.new [])⟩,
   ⟨(some 49), (some (48, false)), .mv (.t 3), [], (.new [])⟩,
   ⟨(some 50), (some (48, false)), .bin .gtr (.t 49) (kI 0), [], (.new [])⟩,
   ⟨(some 51), (some (48, false)), .mv (.t 50), [], (.new [])⟩,
   ⟨(some 52), (some (51, true)), .mv (.t 4), [], (.new [])⟩,
   ⟨(some 53), (some (51, true)), .fieldA 2 (.t 1), [], (.new [])⟩,
   ⟨(some 54), (some (51, true)), .load none (.t 53), [], (.new [])⟩,
   ⟨(some 55), (some (51, true)), .mv (.t 3), [], (.new [])⟩,
   ⟨(some 56), (some (51, true)), .bin .sub (.t 55) (kI 1), [], (.new [])⟩,
   ⟨(some 57), (some (51, true)), .indexA 1 (.t 54) (.t 56), [], (.new [])⟩,
   ⟨(some 58), (some (51, true)), .load none (.t 57), [], (.new [])⟩,
   ⟨(some 59), (some (51, true)), .bin .leq (.t 52) (.t 58), [], (.new [])⟩,
   ⟨(some 60), (some (48, false)), .pick (.t 51) (.t 59) (kB false), [], (.new [])⟩,
   ⟨(some 61), none, .pick (.t 48) (kB true) (.t 60), [], (.new [])⟩]))
 (.cond (.t 61)
 (.seq (.reg [⟨(some 2), none, .mv (kB false), [], (.new [])⟩])
 .ret)
 .skip))))
 (.reg [⟨(some 62), none, .bin .add (.t 40) (kI 1), [], (.new [])⟩,
   ⟨(some 40), none, .mv (.t 62), [], (.new [])⟩]))))))))
 (.seq (.reg [⟨(some 2), none, .mv (kB true), [], (.new [])⟩])
 .ret))))))⟩
theorem a35_ok : afn Try.prog 35 = some a35.er := by kernel_rfl
theorem F35_ok {x0 : Requirement} {r : Bool} (h : F35 x0 = some r) : CallD Try.prog 35 [.agg [.d (.v (.string x0.Key)), .d (.v (.int .i64 x0.Op)), .d (.sl (x0.Values.map eS))]] [] (tupV [.c (.d (.v (.bool r)))]) [] := by
  refine callS a35_ok (by simp [a35]) ?_
  rw [F35] at h
  simp only [a35, VW.down, Nat.reduceEqDiff, reduceCtorEq, Nat.reduceAdd, Nat.reduceLeDiff, Nat.reduceLT, Nat.reduceBEq, Nat.reduceSub, EE.down]
  obtain ⟨t1, ht1, h⟩ := Option.bind_eq_some_iff.1 h
  refine callX_n [] (F29_ok ht1) ?_ ?_ ?_ ?_ ?_ ?_
  · first | rfl | simp [nrmA, nrmC, nrm, A1.ren, C.ren, rn, List.length_set]
  · simp [liveAll, A1.live, C.live]
  · rfl
  · decide
  · exact trivial
  simp only [VW.down, Nat.reduceEqDiff, reduceCtorEq, Nat.reduceAdd, Nat.reduceLeDiff, Nat.reduceLT, Nat.reduceBEq, Nat.reduceSub, EE.down]
  refine condB (fun c2 => ?_) (fun c2 => ?_)
  · have h := (if_pos c2).symm.trans h
    simp only [VW.down, Nat.reduceEqDiff, reduceCtorEq, Nat.reduceAdd, Nat.reduceLeDiff, Nat.reduceLT, Nat.reduceBEq, Nat.reduceSub, EE.down]
    obtain rfl := Option.some.inj h
    exact eF []
  · have h := (if_neg c2).symm.trans h
    simp only [VW.down, Nat.reduceEqDiff, reduceCtorEq, Nat.reduceAdd, Nat.reduceLeDiff, Nat.reduceLT, Nat.reduceBEq, Nat.reduceSub, EE.down]
    obtain ⟨t3, ht3, h⟩ := Option.bind_eq_some_iff.1 h
    refine callX_n [] (F54_ok ht3) ?_ ?_ ?_ ?_ ?_ ?_
    · first | rfl | simp [nrmA, nrmC, nrm, A1.ren, C.ren, rn, List.length_set]
    · simp [liveAll, A1.live, C.live]
    · rfl
    · decide
    · exact trivial
    simp only [VW.down, Nat.reduceEqDiff, reduceCtorEq, Nat.reduceAdd, Nat.reduceLeDiff, Nat.reduceLT, Nat.reduceBEq, Nat.reduceSub, EE.down]
    refine condB (fun c4 => ?_) (fun c4 => ?_)
    · have h := (if_pos c4).symm.trans h
      simp only [VW.down, Nat.reduceEqDiff, reduceCtorEq, Nat.reduceAdd, Nat.reduceLeDiff, Nat.reduceLT, Nat.reduceBEq, Nat.reduceSub, EE.down]
      obtain ⟨o5, ho, h⟩ := Option.bind_eq_some_iff.1 h
      refine cutS (fun s => s = ⟨[(2, .one (.c (.d (.v (.bool o5)))))], []⟩) ?_ ?_
      · have h := ho
        clear ho
        simp only [VW.down, Nat.reduceEqDiff, reduceCtorEq, Nat.reduceAdd, Nat.reduceLeDiff, Nat.reduceLT, Nat.reduceBEq, Nat.reduceSub, EE.down]
        refine guardS (fun g6 => ?_) (fun g6 => ?_)
        · have h := (if_pos g6).symm.trans h
          simp only [VW.down, Nat.reduceEqDiff, reduceCtorEq, Nat.reduceAdd, Nat.reduceLeDiff, Nat.reduceLT, Nat.reduceBEq, Nat.reduceSub, EE.down]
          obtain rfl := Option.some.inj h
          exact eM [] rfl
        · have h := (if_neg g6).symm.trans h
          simp only [VW.down, Nat.reduceEqDiff, reduceCtorEq, Nat.reduceAdd, Nat.reduceLeDiff, Nat.reduceLT, Nat.reduceBEq, Nat.reduceSub, EE.down]
          refine guardS (fun g7 => ?_) (fun g7 => ?_)
          · have h := (if_pos g7).symm.trans h
            simp only [VW.down, Nat.reduceEqDiff, reduceCtorEq, Nat.reduceAdd, Nat.reduceLeDiff, Nat.reduceLT, Nat.reduceBEq, Nat.reduceSub, EE.down]
            obtain rfl := Option.some.inj h
            exact eM [] rfl
          · have h := (if_neg g7).symm.trans h
            simp only [VW.down, Nat.reduceEqDiff, reduceCtorEq, Nat.reduceAdd, Nat.reduceLeDiff, Nat.reduceLT, Nat.reduceBEq, Nat.reduceSub, EE.down]
            obtain rfl := Option.some.inj h
            exact eM [] rfl
      · rintro _ rfl
        clear ho
        simp only [VW.down, Nat.reduceEqDiff, reduceCtorEq, Nat.reduceAdd, Nat.reduceLeDiff, Nat.reduceLT, Nat.reduceBEq, Nat.reduceSub, EE.down]
        obtain rfl := Option.some.inj h
        exact eF []
    · have h := (if_neg c4).symm.trans h
      simp only [VW.down, Nat.reduceEqDiff, reduceCtorEq, Nat.reduceAdd, Nat.reduceLeDiff, Nat.reduceLT, Nat.reduceBEq, Nat.reduceSub, EE.down]
      obtain ⟨o8, ho, h⟩ := Option.bind_eq_some_iff.1 h
      refine cutS (fun s => s = ⟨[(1, .one (.c (.pt 0 0))), (36, .one (.c (.d (.v (.bool o8)))))], [some (.box [.d (.v (.string x0.Key)), .d (.v (.int .i64 x0.Op)), .d (.sl (x0.Values.map eS))])]⟩) ?_ ?_
      · have h := ho
        clear ho
        simp only [VW.down, Nat.reduceEqDiff, reduceCtorEq, Nat.reduceAdd, Nat.reduceLeDiff, Nat.reduceLT, Nat.reduceBEq, Nat.reduceSub, EE.down]
        refine guardS (fun g9 => ?_) (fun g9 => ?_)
        · have h := (if_pos g9).symm.trans h
          simp only [VW.down, Nat.reduceEqDiff, reduceCtorEq, Nat.reduceAdd, Nat.reduceLeDiff, Nat.reduceLT, Nat.reduceBEq, Nat.reduceSub, EE.down]
          obtain rfl := Option.some.inj h
          exact eM [some 0] rfl
        · have h := (if_neg g9).symm.trans h
          simp only [VW.down, Nat.reduceEqDiff, reduceCtorEq, Nat.reduceAdd, Nat.reduceLeDiff, Nat.reduceLT, Nat.reduceBEq, Nat.reduceSub, EE.down]
          obtain rfl := Option.some.inj h
          exact eM [some 0] rfl
      · rintro _ rfl
        clear ho
        simp only [VW.down, Nat.reduceEqDiff, reduceCtorEq, Nat.reduceAdd, Nat.reduceLeDiff, Nat.reduceLT, Nat.reduceBEq, Nat.reduceSub, EE.down]
        refine condB (fun c10 => ?_) (fun c10 => ?_)
        · have h := (if_pos c10).symm.trans h
          simp only [VW.down, Nat.reduceEqDiff, reduceCtorEq, Nat.reduceAdd, Nat.reduceLeDiff, Nat.reduceLT, Nat.reduceBEq, Nat.reduceSub, EE.down]
          obtain rfl := Option.some.inj h
          exact eF []
        · have h := (if_neg c10).symm.trans h
          simp only [VW.down, Nat.reduceEqDiff, reduceCtorEq, Nat.reduceAdd, Nat.reduceLeDiff, Nat.reduceLT, Nat.reduceBEq, Nat.reduceSub, EE.down]
          obtain ⟨o11, ho, h⟩ := Option.bind_eq_some_iff.1 h
          refine cutS (fun s => ∃ po11, o11 = Sum.inr po11 ∧ s = ⟨[], []⟩) ?_ ?_
          · have h0o11 := h
            have h := ho
            clear ho
            obtain ⟨_, hk, h⟩ := Option.bind_eq_some_iff.1 h
            have hk := ck_some hk
            simp only [VW.down, Nat.reduceEqDiff, reduceCtorEq, Nat.reduceAdd, Nat.reduceLeDiff, Nat.reduceLT, Nat.reduceBEq, Nat.reduceSub, EE.down]
            refine bL (fun j s => ∃ (o11_0 : Nat), (o11_0 ≤ x0.Values.length ∧ j = x0.Values.length - o11_0) ∧ s = ⟨[(1, .one (.c (.pt 0 0))), (38, .one (.c (.d (.sl (x0.Values.map eS))))), (39, .one (.c (.d (.v (.int .i64 ((x0.Values.length : Int))))))), (40, .one (.c (.d (.v (.int .i64 ((o11_0 : Int)))))))], [some (.box [.d (.v (.string x0.Key)), .d (.v (.int .i64 x0.Op)), .d (.sl (x0.Values.map eS))])]⟩ ∧ F35_l11 x0 (x0.Values.drop o11_0) o11_0 = some o11) (x0.Values.length - 0) [some 0] ⟨0, ⟨hk.1, rfl⟩, rfl, h⟩ ?_
            rintro _ _ ⟨o11_0, ⟨hi, rfl⟩, rfl, h⟩
            simp only [VW.down, Nat.reduceEqDiff, reduceCtorEq, Nat.reduceAdd, Nat.reduceLeDiff, Nat.reduceLT, Nat.reduceBEq, Nat.reduceSub, EE.down]
            refine condS (fun c12 => ?_) (fun c12 => ?_)
            · obtain ⟨xo11, hxo11, hd⟩ := countY (show (o11_0 : Int) < (x0.Values.length : Int) from c12)
              rw [hd, F35_l11] at h
              simp only [VW.down, Nat.reduceEqDiff, reduceCtorEq, Nat.reduceAdd, Nat.reduceLeDiff, Nat.reduceLT, Nat.reduceBEq, Nat.reduceSub, EE.down]
              refine t_idxF (enc := eS) (xs := x0.Values) rfl rfl hxo11 rfl ?_
              simp only [VW.down, Nat.reduceEqDiff, reduceCtorEq, Nat.reduceAdd, Nat.reduceLeDiff, Nat.reduceLT, Nat.reduceBEq, Nat.reduceSub, EE.down]
              obtain ⟨o13, ho, h⟩ := Option.bind_eq_some_iff.1 h
              refine cutS (fun s => s = ⟨[(1, .one (.c (.pt 0 0))), (38, .one (.c (.d (.sl (x0.Values.map eS))))), (39, .one (.c (.d (.v (.int .i64 ((x0.Values.length : Int))))))), (40, .one (.c (.d (.v (.int .i64 ((o11_0 : Int))))))), (61, .one (.c (.d (.v (.bool o13)))))], [some (.box [.d (.v (.string x0.Key)), .d (.v (.int .i64 x0.Op)), .d (.sl (x0.Values.map eS))])]⟩) ?_ ?_
              · have h := ho
                clear ho
                simp only [VW.down, Nat.reduceEqDiff, reduceCtorEq, Nat.reduceAdd, Nat.reduceLeDiff, Nat.reduceLT, Nat.reduceBEq, Nat.reduceSub, EE.down]
                obtain ⟨t14, ht14, h⟩ := Option.bind_eq_some_iff.1 h
                refine callX_n [] (F30_ok ht14) ?_ ?_ ?_ ?_ ?_ ?_
                · first | rfl | simp [nrmA, nrmC, nrm, A1.ren, C.ren, rn, List.length_set]
                · simp [liveAll, A1.live, C.live]
                · rfl
                · decide
                · exact trivial
                simp only [VW.down, Nat.reduceEqDiff, reduceCtorEq, Nat.reduceAdd, Nat.reduceLeDiff, Nat.reduceLT, Nat.reduceBEq, Nat.reduceSub, EE.down]
                refine guardSB (fun g15 => ?_) (fun g15 => ?_)
                · have h := (if_pos g15).symm.trans h
                  simp only [VW.down, Nat.reduceEqDiff, reduceCtorEq, Nat.reduceAdd, Nat.reduceLeDiff, Nat.reduceLT, Nat.reduceBEq, Nat.reduceSub, EE.down]
                  obtain rfl := Option.some.inj h
                  exact eM [some 0] rfl
                · have h := (if_neg g15).symm.trans h
                  simp only [VW.down, Nat.reduceEqDiff, reduceCtorEq, Nat.reduceAdd, Nat.reduceLeDiff, Nat.reduceLT, Nat.reduceBEq, Nat.reduceSub, EE.down]
                  refine guardS (fun g16 => ?_) (fun g16 => ?_)
                  · have h := (if_pos g16).symm.trans h
                    simp only [VW.down, Nat.reduceEqDiff, reduceCtorEq, Nat.reduceAdd, Nat.reduceLeDiff, Nat.reduceLT, Nat.reduceBEq, Nat.reduceSub, EE.down]
                    obtain ⟨y17, hy17, h⟩ := Option.bind_eq_some_iff.1 h
                    refine t_idxF (enc := eS) (xs := x0.Values) rfl rfl hy17 rfl ?_
                    simp only [VW.down, Nat.reduceEqDiff, reduceCtorEq, Nat.reduceAdd, Nat.reduceLeDiff, Nat.reduceLT, Nat.reduceBEq, Nat.reduceSub, EE.down]
                    obtain rfl := Option.some.inj h
                    exact eM [some 0] rfl
                  · have h := (if_neg g16).symm.trans h
                    simp only [VW.down, Nat.reduceEqDiff, reduceCtorEq, Nat.reduceAdd, Nat.reduceLeDiff, Nat.reduceLT, Nat.reduceBEq, Nat.reduceSub, EE.down]
                    obtain rfl := Option.some.inj h
                    exact eM [some 0] rfl
              · rintro _ rfl
                clear ho
                simp only [VW.down, Nat.reduceEqDiff, reduceCtorEq, Nat.reduceAdd, Nat.reduceLeDiff, Nat.reduceLT, Nat.reduceBEq, Nat.reduceSub, EE.down]
                refine condB (fun c18 => ?_) (fun c18 => ?_)
                · have h := (if_pos c18).symm.trans h
                  simp only [VW.down, Nat.reduceEqDiff, reduceCtorEq, Nat.reduceAdd, Nat.reduceLeDiff, Nat.reduceLT, Nat.reduceBEq, Nat.reduceSub, EE.down]
                  obtain ⟨fh0o11, hfh0o11, rfl⟩ := Option.map_eq_some_iff.1 h
                  have h := hfh0o11.trans h0o11
                  obtain rfl := Option.some.inj h
                  exact eF []
                · have h := (if_neg c18).symm.trans h
                  simp only [VW.down, Nat.reduceEqDiff, reduceCtorEq, Nat.reduceAdd, Nat.reduceLeDiff, Nat.reduceLT, Nat.reduceBEq, Nat.reduceSub, EE.down]
                  rw [wrapN (by omega)]
                  exact eL' (x0.Values.length - (o11_0 + 1)) [some 0] ⟨o11_0 + 1, ⟨by omega, rfl⟩, rfl, h⟩ (by omega)
            · rw [countN (show ¬ ((o11_0 : Int) < (x0.Values.length : Int)) from c12), F35_l11] at h
              simp only [VW.down, Nat.reduceEqDiff, reduceCtorEq, Nat.reduceAdd, Nat.reduceLeDiff, Nat.reduceLT, Nat.reduceBEq, Nat.reduceSub, EE.down]
              obtain rfl := Option.some.inj h
              exact eM [] ⟨_, rfl, rfl⟩
          · rintro _ ⟨po11, rfl, rfl⟩
            clear ho
            dsimp only at h
            simp only [VW.down, Nat.reduceEqDiff, reduceCtorEq, Nat.reduceAdd, Nat.reduceLeDiff, Nat.reduceLT, Nat.reduceBEq, Nat.reduceSub, EE.down]
            obtain rfl := Option.some.inj h
            exact eF []

/- orchestrator/label.ValidSelector$1 -/
def F34 (x0 : Requirement) : Option (Bool) := (F35 x0).bind fun t1 => some (nb t1)
def a34 : AFn := ⟨6, [(.tmp 2)],
 (.seq (.reg [⟨(some 1), none, .box (.t 0), [], (.new [])⟩,
   ⟨(some 2), none, .mv (kB false), [], (.new [])⟩])
 (.seq (.reg [⟨(some 3), none, .load (some 3) (.t 1), [], (.new [])⟩,
   ⟨(some 4), none, .call 35 [(.t 3)], [], (.new [])⟩,
   ⟨(some 5), none, .not (.t 4), [], (.new [])⟩,
   ⟨(some 2), none, .mv (.t 5), [], (.new [])⟩])
 .ret))⟩
theorem a34_ok : afn Try.prog 34 = some a34.er := by kernel_rfl
theorem F34_ok {x0 : Requirement} {r : Bool} (h : F34 x0 = some r) : CallD Try.prog 34 [.agg [.d (.v (.string x0.Key)), .d (.v (.int .i64 x0.Op)), .d (.sl (x0.Values.map eS))]] [] (tupV [.c (.d (.v (.bool r)))]) [] := by
  refine callS a34_ok (by simp [a34]) ?_
  rw [F34] at h
  simp only [a34, VW.down, Nat.reduceEqDiff, reduceCtorEq, Nat.reduceAdd, Nat.reduceLeDiff, Nat.reduceLT, Nat.reduceBEq, Nat.reduceSub, EE.down]
  obtain ⟨t1, ht1, h⟩ := Option.bind_eq_some_iff.1 h
  refine callX_n [] (F35_ok ht1) ?_ ?_ ?_ ?_ ?_ ?_
  · first | rfl | simp [nrmA, nrmC, nrm, A1.ren, C.ren, rn, List.length_set]
  · simp [liveAll, A1.live, C.live]
  · rfl
  · decide
  · exact trivial
  simp only [VW.down, Nat.reduceEqDiff, reduceCtorEq, Nat.reduceAdd, Nat.reduceLeDiff, Nat.reduceLT, Nat.reduceBEq, Nat.reduceSub, EE.down]
  obtain rfl := Option.some.inj h
  exact eF []

/- slices.IndexFunc[[]orchestrator/api.Requirement,orchestrator/api.Requirement] -/
def F53_l1  : List Requirement → Nat → Option ((Int) ⊕ (Unit))
  | [], o1_0 => some (Sum.inr (()))
  | xo1 :: xs, o1_0 => (F34 xo1).bind fun t3 => (if t3 = true then (some ((o1_0 : Int))).map Sum.inl else F53_l1  xs (o1_0 + 1))
def F53 (x0 : (List Requirement)) : Option (Int) := (((ck (0 ≤ x0.length ∧ x0.length ≤ 4294967290)).bind fun u5 => F53_l1 x0 0 : Option ((Int) ⊕ (Unit))).bind fun o1 => match o1 with | Sum.inl f => some f | Sum.inr po1 => some ((-1)))
def a53 : AFn := ⟨19, [(.tmp 4)],
 (.seq (.reg [⟨(some 4), none, .mv (kI 0), [], (.new [])⟩])
 (.seq (.seq (.reg [⟨(some 6), none, .mv (.t 0), [], (.new [])⟩,
   ⟨(some 7), none, .len (.t 6), [], (.new [])⟩,
   ⟨(some 8), none, .mv (kI 0), [], (.new [])⟩])
 (.sem (.block 0 (.loop (.seq (.reg [⟨(some 9), none, .bin .lss (.t 8) (.t 7), [], (.new [])⟩])
 (.seq (.cond (.t 9)
 .skip
 (.exit 0))
 (.seq (.block 1 (.seq (.reg [⟨(some 10), none, .mv (.t 8), [], (.new [])⟩,
   ⟨(some 5), none, .mv (.t 10), [], (.new [])⟩])
 (.seq (.reg [⟨(some 11), none, .mv (.t 1), [], (.new [])⟩,
   ⟨(some 12), none, .mv (.t 0), [], (.new [])⟩,
   ⟨(some 13), none, .mv (.t 5), [], (.new [])⟩,
   ⟨(some 14), none, .indexA 3 (.t 12) (.t 13), [], (.new [])⟩,
   ⟨(some 15), none, .load (some 3) (.t 14), [], (.new [])⟩,
   ⟨(some 16), none, .callv (.t 11) [(.t 15)], [], (.lone [12, 14])⟩])
 (.cond (.t 16)
 (.seq (.reg [⟨(some 17), none, .mv (.t 5), [], (.new [])⟩,
   ⟨(some 4), none, .mv (.t 17), [], (.new [])⟩])
 .ret)
 .skip))))
 (.reg [⟨(some 18), none, .bin .add (.t 8) (kI 1), [], (.new [])⟩,
   ⟨(some 8), none, .mv (.t 18), [], (.new [])⟩]))))))))
 (.seq (.reg [⟨(some 4), none, .mv (kI (-1)), [], (.new [])⟩])
 .ret)))⟩
theorem a53_ok : afn Try.prog 53 = some a53.er := by kernel_rfl
theorem F53_ok {x0 : (List Requirement)} {r : Int} (h : F53 x0 = some r) : CallD Try.prog 53 [.c (.d (.sl (x0.map eRequirement))), .c (.fn 34 [])] [] (tupV [.c (.d (.v (.int .i64 r)))]) [] := by
  refine callS a53_ok (by simp [a53]) ?_
  rw [F53] at h
  simp only [a53, VW.down, Nat.reduceEqDiff, reduceCtorEq, Nat.reduceAdd, Nat.reduceLeDiff, Nat.reduceLT, Nat.reduceBEq, Nat.reduceSub, EE.down]
  obtain ⟨o1, ho, h⟩ := Option.bind_eq_some_iff.1 h
  refine cutS (fun s => ∃ po1, o1 = Sum.inr po1 ∧ s = ⟨[], []⟩) ?_ ?_
  · have h0o1 := h
    have h := ho
    clear ho
    obtain ⟨_, hk, h⟩ := Option.bind_eq_some_iff.1 h
    have hk := ck_some hk
    simp only [VW.down, Nat.reduceEqDiff, reduceCtorEq, Nat.reduceAdd, Nat.reduceLeDiff, Nat.reduceLT, Nat.reduceBEq, Nat.reduceSub, EE.down]
    refine bL (fun j s => ∃ (o1_0 : Nat), (o1_0 ≤ x0.length ∧ j = x0.length - o1_0) ∧ s = ⟨[(0, .one (.c (.d (.sl (x0.map eRequirement))))), (1, .one (.c (.fn 34 []))), (7, .one (.c (.d (.v (.int .i64 ((x0.length : Int))))))), (8, .one (.c (.d (.v (.int .i64 ((o1_0 : Int)))))))], []⟩ ∧ F53_l1 (x0.drop o1_0) o1_0 = some o1) (x0.length - 0) [] ⟨0, ⟨hk.1, rfl⟩, rfl, h⟩ ?_
    rintro _ _ ⟨o1_0, ⟨hi, rfl⟩, rfl, h⟩
    simp only [VW.down, Nat.reduceEqDiff, reduceCtorEq, Nat.reduceAdd, Nat.reduceLeDiff, Nat.reduceLT, Nat.reduceBEq, Nat.reduceSub, EE.down]
    refine condS (fun c2 => ?_) (fun c2 => ?_)
    · obtain ⟨xo1, hxo1, hd⟩ := countY (show (o1_0 : Int) < (x0.length : Int) from c2)
      rw [hd, F53_l1] at h
      simp only [VW.down, Nat.reduceEqDiff, reduceCtorEq, Nat.reduceAdd, Nat.reduceLeDiff, Nat.reduceLT, Nat.reduceBEq, Nat.reduceSub, EE.down]
      refine t_idxF (enc := eRequirement) (xs := x0) rfl rfl hxo1 rfl ?_
      simp only [VW.down, Nat.reduceEqDiff, reduceCtorEq, Nat.reduceAdd, Nat.reduceLeDiff, Nat.reduceLT, Nat.reduceBEq, Nat.reduceSub, EE.down]
      obtain ⟨t3, ht3, h⟩ := Option.bind_eq_some_iff.1 h
      refine callX_n [] (F34_ok ht3) ?_ ?_ ?_ ?_ ?_ ?_
      · first | rfl | simp [nrmA, nrmC, nrm, A1.ren, C.ren, rn, List.length_set]
      · simp [liveAll, A1.live, C.live]
      · rfl
      · decide
      · exact trivial
      simp only [VW.down, Nat.reduceEqDiff, reduceCtorEq, Nat.reduceAdd, Nat.reduceLeDiff, Nat.reduceLT, Nat.reduceBEq, Nat.reduceSub, EE.down]
      refine condB (fun c4 => ?_) (fun c4 => ?_)
      · have h := (if_pos c4).symm.trans h
        simp only [VW.down, Nat.reduceEqDiff, reduceCtorEq, Nat.reduceAdd, Nat.reduceLeDiff, Nat.reduceLT, Nat.reduceBEq, Nat.reduceSub, EE.down]
        obtain ⟨fh0o1, hfh0o1, rfl⟩ := Option.map_eq_some_iff.1 h
        have h := hfh0o1.trans h0o1
        obtain rfl := Option.some.inj h
        exact eF []
      · have h := (if_neg c4).symm.trans h
        simp only [VW.down, Nat.reduceEqDiff, reduceCtorEq, Nat.reduceAdd, Nat.reduceLeDiff, Nat.reduceLT, Nat.reduceBEq, Nat.reduceSub, EE.down]
        rw [wrapN (by omega)]
        exact eL' (x0.length - (o1_0 + 1)) [] ⟨o1_0 + 1, ⟨by omega, rfl⟩, rfl, h⟩ (by omega)
    · rw [countN (show ¬ ((o1_0 : Int) < (x0.length : Int)) from c2), F53_l1] at h
      simp only [VW.down, Nat.reduceEqDiff, reduceCtorEq, Nat.reduceAdd, Nat.reduceLeDiff, Nat.reduceLT, Nat.reduceBEq, Nat.reduceSub, EE.down]
      obtain rfl := Option.some.inj h
      exact eM [] ⟨_, rfl, rfl⟩
  · rintro _ ⟨po1, rfl, rfl⟩
    clear ho
    dsimp only at h
    simp only [VW.down, Nat.reduceEqDiff, reduceCtorEq, Nat.reduceAdd, Nat.reduceLeDiff, Nat.reduceLT, Nat.reduceBEq, Nat.reduceSub, EE.down]
    obtain rfl := Option.some.inj h
    exact eF []

/- slices.ContainsFunc[[]orchestrator/api.Requirement,orchestrator/api.Requirement] -/
def F33 (x0 : (List Requirement)) : Option (Bool) := (F53 x0).bind fun t1 => some (decide (0 ≤ t1))
def a33 : AFn := ⟨9, [(.tmp 4)],
 (.seq (.reg [⟨(some 4), none, .mv (kB false), [], (.new [])⟩])
 (.seq (.reg [⟨(some 5), none, .mv (.t 0), [], (.new [])⟩,
   ⟨(some 6), none, .mv (.t 1), [], (.new [])⟩,
   ⟨(some 7), none, .call 53 [(.t 5), (.t 6)], [], (.new [])⟩,
   ⟨(some 8), none, .bin .geq (.t 7) (kI 0), [], (.new [])⟩,
   ⟨(some 4), none, .mv (.t 8), [], (.new [])⟩])
 .ret))⟩
theorem a33_ok : afn Try.prog 33 = some a33.er := by kernel_rfl
theorem F33_ok {x0 : (List Requirement)} {r : Bool} (h : F33 x0 = some r) : CallD Try.prog 33 [.c (.d (.sl (x0.map eRequirement))), .c (.fn 34 [])] [] (tupV [.c (.d (.v (.bool r)))]) [] := by
  refine callS a33_ok (by simp [a33]) ?_
  rw [F33] at h
  simp only [a33, VW.down, Nat.reduceEqDiff, reduceCtorEq, Nat.reduceAdd, Nat.reduceLeDiff, Nat.reduceLT, Nat.reduceBEq, Nat.reduceSub, EE.down]
  obtain ⟨t1, ht1, h⟩ := Option.bind_eq_some_iff.1 h
  refine callX_n [] (F53_ok ht1) ?_ ?_ ?_ ?_ ?_ ?_
  · first | rfl | simp [nrmA, nrmC, nrm, A1.ren, C.ren, rn, List.length_set]
  · simp [liveAll, A1.live, C.live]
  · rfl
  · decide
  · exact trivial
  simp only [VW.down, Nat.reduceEqDiff, reduceCtorEq, Nat.reduceAdd, Nat.reduceLeDiff, Nat.reduceLT, Nat.reduceBEq, Nat.reduceSub, EE.down]
  obtain rfl := Option.some.inj h
  exact eF []

/- orchestrator/label.ValidSelector -/
def F15 (x0 : (List Requirement)) : Option (Bool) := (((if (x0.length : Int) ≤ 16 then (F33 x0).bind fun t3 => some (nb t3) else some false)).bind fun o1 => some o1)
def a15 : AFn := ⟨11, [(.tmp 2)],
 (.seq (.reg [⟨(some 2), none, .mv (kB false), [], (.new [])⟩])
 (.seq (.sem (.reg [⟨(some 3), none, .mv (.t 0), [], (.new [])⟩,
   ⟨(some 4), none, .len (.t 3), [], (.new [])⟩,
   ⟨(some 5), none, .bin .leq (.t 4) (kI 16), [], (.new [])⟩,
   ⟨(some 6), none, .mv (.t 5), [], (.new [])⟩,
   ⟨(some 7), (some (6, true)), .mv (.t 0), [], (.new [])⟩,
   ⟨(some 8), (some (6, true)), .call 33 [(.t 7), (.f 34)], [], (.new [])⟩,
   ⟨(some 9), (some (6, true)), .not (.t 8), [], (.new [])⟩,
   ⟨(some 10), none, .pick (.t 6) (.t 9) (kB false), [], (.new [])⟩,
   ⟨(some 2), none, .mv (.t 10), [], (.new [])⟩]))
 .ret))⟩
theorem a15_ok : afn Try.prog 15 = some a15.er := by kernel_rfl
theorem F15_ok {x0 : (List Requirement)} {r : Bool} (h : F15 x0 = some r) : CallD Try.prog 15 [.c (.d (.sl (x0.map eRequirement)))] [] (tupV [.c (.d (.v (.bool r)))]) [] := by
  refine callS a15_ok (by simp [a15]) ?_
  rw [F15] at h
  simp only [a15, VW.down, Nat.reduceEqDiff, reduceCtorEq, Nat.reduceAdd, Nat.reduceLeDiff, Nat.reduceLT, Nat.reduceBEq, Nat.reduceSub, EE.down]
  obtain ⟨o1, ho, h⟩ := Option.bind_eq_some_iff.1 h
  refine cutS (fun s => s = ⟨[(2, .one (.c (.d (.v (.bool o1)))))], []⟩) ?_ ?_
  · have h := ho
    clear ho
    simp only [VW.down, Nat.reduceEqDiff, reduceCtorEq, Nat.reduceAdd, Nat.reduceLeDiff, Nat.reduceLT, Nat.reduceBEq, Nat.reduceSub, EE.down]
    refine guardS (fun g2 => ?_) (fun g2 => ?_)
    · have h := (if_pos g2).symm.trans h
      simp only [VW.down, Nat.reduceEqDiff, reduceCtorEq, Nat.reduceAdd, Nat.reduceLeDiff, Nat.reduceLT, Nat.reduceBEq, Nat.reduceSub, EE.down]
      obtain ⟨t3, ht3, h⟩ := Option.bind_eq_some_iff.1 h
      refine callX_n [] (F33_ok ht3) ?_ ?_ ?_ ?_ ?_ ?_
      · first | rfl | simp [nrmA, nrmC, nrm, A1.ren, C.ren, rn, List.length_set]
      · simp [liveAll, A1.live, C.live]
      · rfl
      · decide
      · exact trivial
      simp only [VW.down, Nat.reduceEqDiff, reduceCtorEq, Nat.reduceAdd, Nat.reduceLeDiff, Nat.reduceLT, Nat.reduceBEq, Nat.reduceSub, EE.down]
      obtain rfl := Option.some.inj h
      exact eM [] rfl
    · have h := (if_neg g2).symm.trans h
      simp only [VW.down, Nat.reduceEqDiff, reduceCtorEq, Nat.reduceAdd, Nat.reduceLeDiff, Nat.reduceLT, Nat.reduceBEq, Nat.reduceSub, EE.down]
      obtain rfl := Option.some.inj h
      exact eM [] rfl
  · rintro _ rfl
    clear ho
    simp only [VW.down, Nat.reduceEqDiff, reduceCtorEq, Nat.reduceAdd, Nat.reduceLeDiff, Nat.reduceLT, Nat.reduceBEq, Nat.reduceSub, EE.down]
    obtain rfl := Option.some.inj h
    exact eF []

/- strings.Join -/
def Try.laysJoin_ren : Go.Shelf.Ren := ⟨fun | 156 => 49 | 165 => 67 | 166 => 68 | 169 => 69 | 240 => 78 | 241 => 79 | 276 => 84 | 277 => 85 | n => n, fun | 31 => 41 | 9 => 9 | 3 => 3 | 4 => 4 | 0 => 0 | 20 => 20 | 72 => 79 | 76 => 83 | 70 => 76 | 37 => 77 | 75 => 82 | 127 => 91 | 164 => 96 | 5 => 5 | 80 => 71 | n => n, fun | n => n⟩
theorem Try.laysJoin : Go.Proofs.Lays.n156 Try.prog Try.laysJoin_ren := {
  mixed := by kernel_rfl
  f156 := Try.func49.trans (congrArg some (by kernel_rfl))
  f165 := Try.func67.trans (congrArg some (by kernel_rfl))
  f166 := Try.func68.trans (congrArg some (by kernel_rfl))
  f169 := Try.func69.trans (congrArg some (by kernel_rfl))
  f240 := Try.func78.trans (congrArg some (by kernel_rfl))
  f241 := Try.func79.trans (congrArg some (by kernel_rfl))
  f276 := Try.func84.trans (congrArg some (by kernel_rfl))
  f277 := Try.func85.trans (congrArg some (by kernel_rfl))
  t0 := Try.underlying0
  a0 := Try.isAgg0
  z0 := Try.sizeOf0
  v0 := Try.zeroValue0
  t3 := Try.underlying3
  a3 := Try.isAgg3
  z3 := Try.sizeOf3
  v3 := Try.zeroValue3
  t4 := Try.underlying4
  a4 := Try.isAgg4
  z4 := Try.sizeOf4
  v4 := Try.zeroValue4
  t9 := Try.underlying9
  a9 := Try.isAgg9
  z9 := Try.sizeOf9
  v9 := Try.zeroValue9
  t20 := Try.underlying20
  a20 := Try.isAgg20
  z20 := Try.sizeOf20
  v20 := Try.zeroValue20
  t31 := Try.underlying41
  a31 := Try.isAgg41
  z31 := Try.sizeOf41
  v31 := Try.zeroValue41
  t37 := Try.underlying77
  a37 := Try.isAgg77
  z37 := Try.sizeOf77
  v37 := Try.zeroValue77
  t70 := Try.underlying76
  a70 := Try.isAgg76
  z70 := Try.sizeOf76
  v70 := Try.zeroValue76
  t72 := Try.underlying79
  a72 := Try.isAgg79
  z72 := Try.sizeOf79
  v72 := Try.zeroValue79
  t75 := Try.underlying82
  a75 := Try.isAgg82
  z75 := Try.sizeOf82
  v75 := Try.zeroValue82
  t76 := Try.underlying83
  a76 := Try.isAgg83
  z76 := Try.sizeOf83
  v76 := Try.zeroValue83
  t127 := Try.underlying91
  a127 := Try.isAgg91
  z127 := Try.sizeOf91
  v127 := Try.zeroValue91
  t164 := Try.underlying96
  a164 := Try.isAgg96
  z164 := Try.sizeOf96
  v164 := Try.zeroValue96 }
theorem Try.joinX : Go.Proofs.Builder.Extra Try.prog Try.laysJoin_ren where
  sizeBuilder := by kernel_rfl
  liesBuilder := by kernel_rfl
  t5 := Try.underlying5
  a5 := Try.isAgg5
  z5 := Try.sizeOf5
  v5 := Try.zeroValue5
  infoByte := by kernel_rfl
  cellsByte := by kernel_rfl
  sizeByte := by kernel_rfl
  neB5 := by decide

theorem F49d_ok {x0 : List ByteArray} {x1 r : ByteArray} (h : joinI x0 x1 = some r) : CallD Try.prog 49 [.c (.d (.sl (x0.map eS))), .c (.d (.v (.string x1)))] [] (tupV [.c (.d (.v (.string r)))]) [] := L_joinD (ρ := Try.laysJoin_ren) Try.laysJoin Try.joinX rfl (by kernel_rfl) h

/- orchestrator/label.format -/
def F48 (x0 : Requirement) : Option (ByteArray) := (if x0.Op = 1 then (catI x0.Key ((⟨#[32, 105, 110, 32, 40]⟩ : ByteArray))).bind fun s2 => (joinI x0.Values ((⟨#[44]⟩ : ByteArray))).bind fun t3 => (catI s2 t3).bind fun s4 => (catI s4 ((⟨#[41]⟩ : ByteArray))).bind fun s5 => some s5 else (if x0.Op = 2 then (catI x0.Key ((⟨#[32, 110, 111, 116, 105, 110, 32, 40]⟩ : ByteArray))).bind fun s7 => (joinI x0.Values ((⟨#[44]⟩ : ByteArray))).bind fun t8 => (catI s7 t8).bind fun s9 => (catI s9 ((⟨#[41]⟩ : ByteArray))).bind fun s10 => some s10 else (if x0.Op = 4 then (catI ((⟨#[33]⟩ : ByteArray)) x0.Key).bind fun s12 => some s12 else some x0.Key)))
def a48 : AFn := ⟨32, [(.tmp 2)],
 (.seq (.reg [⟨(some 1), none, .box (.t 0), [], (.new [])⟩,
   ⟨(some 2), none, .mv (kS ⟨#[]⟩), [], (.new [])⟩])
 (.seq (.seq (.reg [⟨(some 3), none, .fieldA 1 (.t 1), [], (.new [])⟩,
   ⟨(some 4), none, .load none (.t 3), [], (.new [])⟩])
 (.block 0 (.seq (.reg [⟨(some 6), none, .bin .eql (.t 4) (kI 1), [], (.new [])⟩,
   ⟨(some 5), none, .mv (.t 6), [], (.new [])⟩])
 (.cond (.t 5)
 (.seq (.regd [⟨(some 7), none, .fieldA 0 (.t 1), [], (.new [])⟩,
   ⟨(some 8), none, .load none (.t 7), [0], (.new [])⟩,
   ⟨(some 9), none, .bin .add (.t 8) (kS ⟨#[32, 105, 110, 32, 40]⟩), [0, 1], (.new [])⟩,
   ⟨(some 10), none, .fieldA 2 (.t 1), [], (.new [])⟩,
   ⟨(some 11), none, .load none (.t 10), [3], (.new [])⟩,
   ⟨(some 12), none, .call 49 [(.t 11), (kS ⟨#[44]⟩)], [3, 4], (.lone [1, 7])⟩,
   ⟨(some 13), none, .bin .add (.t 9) (.t 12), [0, 1, 2, 3, 4, 5], (.new [])⟩,
   ⟨(some 14), none, .bin .add (.t 13) (kS ⟨#[41]⟩), [0, 1, 2, 3, 4, 5, 6], (.new [])⟩,
   ⟨(some 2), none, .mv (.t 14), [0, 1, 2, 3, 4, 5, 6, 7], (.new [])⟩])
 .ret)
 (.seq (.reg [⟨(some 16), none, .bin .eql (.t 4) (kI 2), [], (.new [])⟩,
   ⟨(some 15), none, .mv (.t 16), [], (.new [])⟩])
 (.cond (.t 15)
 (.seq (.regd [⟨(some 17), none, .fieldA 0 (.t 1), [], (.new [])⟩,
   ⟨(some 18), none, .load none (.t 17), [0], (.new [])⟩,
   ⟨(some 19), none, .bin .add (.t 18) (kS ⟨#[32, 110, 111, 116, 105, 110, 32, 40]⟩), [0, 1], (.new [])⟩,
   ⟨(some 20), none, .fieldA 2 (.t 1), [], (.new [])⟩,
   ⟨(some 21), none, .load none (.t 20), [3], (.new [])⟩,
   ⟨(some 22), none, .call 49 [(.t 21), (kS ⟨#[44]⟩)], [3, 4], (.lone [1, 17])⟩,
   ⟨(some 23), none, .bin .add (.t 19) (.t 22), [0, 1, 2, 3, 4, 5], (.new [])⟩,
   ⟨(some 24), none, .bin .add (.t 23) (kS ⟨#[41]⟩), [0, 1, 2, 3, 4, 5, 6], (.new [])⟩,
   ⟨(some 2), none, .mv (.t 24), [0, 1, 2, 3, 4, 5, 6, 7], (.new [])⟩])
 .ret)
 (.seq (.reg [⟨(some 26), none, .bin .eql (.t 4) (kI 4), [], (.new [])⟩,
   ⟨(some 25), none, .mv (.t 26), [], (.new [])⟩])
 (.cond (.t 25)
 (.seq (.reg [⟨(some 27), none, .fieldA 0 (.t 1), [], (.new [])⟩,
   ⟨(some 28), none, .load none (.t 27), [], (.new [])⟩,
   ⟨(some 29), none, .bin .add (kS ⟨#[33]⟩) (.t 28), [], (.new [])⟩,
   ⟨(some 2), none, .mv (.t 29), [], (.new [])⟩])
 .ret)
 .skip))))))))
 (.seq (.reg [⟨(some 30), none, .fieldA 0 (.t 1), [], (.new [])⟩,
   ⟨(some 31), none, .load none (.t 30), [], (.new [])⟩,
   ⟨(some 2), none, .mv (.t 31), [], (.new [])⟩])
 .ret)))⟩
theorem a48_ok : afn Try.prog 48 = some a48.er := by kernel_rfl
theorem F48_ok {x0 : Requirement} {r : ByteArray} (h : F48 x0 = some r) : CallD Try.prog 48 [.agg [.d (.v (.string x0.Key)), .d (.v (.int .i64 x0.Op)), .d (.sl (x0.Values.map eS))]] [] (tupV [.c (.d (.v (.string r)))]) [] := by
  refine callS a48_ok (by simp [a48]) ?_
  rw [F48] at h
  simp only [a48, VW.down, Nat.reduceEqDiff, reduceCtorEq, Nat.reduceAdd, Nat.reduceLeDiff, Nat.reduceLT, Nat.reduceBEq, Nat.reduceSub, EE.down]
  refine condS (fun c1 => ?_) (fun c1 => ?_)
  · have h := (if_pos c1).symm.trans h
    simp only [VW.down, Nat.reduceEqDiff, reduceCtorEq, Nat.reduceAdd, Nat.reduceLeDiff, Nat.reduceLT, Nat.reduceBEq, Nat.reduceSub, EE.down]
    obtain ⟨s2, hs2, h⟩ := Option.bind_eq_some_iff.1 h
    obtain ⟨hle, es2⟩ := cat_some hs2
    refine ⟨hle, ?_⟩
    first | rw [← es2] | subst es2
    try simp only [VW.down, Nat.reduceEqDiff, reduceCtorEq, Nat.reduceAdd, Nat.reduceLeDiff, Nat.reduceLT, Nat.reduceBEq, Nat.reduceSub, EE.down]
    obtain ⟨t3, ht3, h⟩ := Option.bind_eq_some_iff.1 h
    refine callX_n [] (F49d_ok ht3) ?_ ?_ ?_ ?_ ?_ ?_
    · first | rfl | simp [nrmA, nrmC, nrm, A1.ren, C.ren, rn, List.length_set]
    · simp [liveAll, A1.live, C.live]
    · rfl
    · decide
    · exact trivial
    simp only [VW.down, Nat.reduceEqDiff, reduceCtorEq, Nat.reduceAdd, Nat.reduceLeDiff, Nat.reduceLT, Nat.reduceBEq, Nat.reduceSub, EE.down]
    obtain ⟨s4, hs4, h⟩ := Option.bind_eq_some_iff.1 h
    obtain ⟨hle, es4⟩ := cat_some hs4
    refine ⟨hle, ?_⟩
    first | rw [← es4] | subst es4
    try simp only [VW.down, Nat.reduceEqDiff, reduceCtorEq, Nat.reduceAdd, Nat.reduceLeDiff, Nat.reduceLT, Nat.reduceBEq, Nat.reduceSub, EE.down]
    obtain ⟨s5, hs5, h⟩ := Option.bind_eq_some_iff.1 h
    obtain ⟨hle, es5⟩ := cat_some hs5
    refine ⟨hle, ?_⟩
    first | rw [← es5] | subst es5
    try simp only [VW.down, Nat.reduceEqDiff, reduceCtorEq, Nat.reduceAdd, Nat.reduceLeDiff, Nat.reduceLT, Nat.reduceBEq, Nat.reduceSub, EE.down]
    obtain rfl := Option.some.inj h
    exact eF []
  · have h := (if_neg c1).symm.trans h
    simp only [VW.down, Nat.reduceEqDiff, reduceCtorEq, Nat.reduceAdd, Nat.reduceLeDiff, Nat.reduceLT, Nat.reduceBEq, Nat.reduceSub, EE.down]
    refine condS (fun c6 => ?_) (fun c6 => ?_)
    · have h := (if_pos c6).symm.trans h
      simp only [VW.down, Nat.reduceEqDiff, reduceCtorEq, Nat.reduceAdd, Nat.reduceLeDiff, Nat.reduceLT, Nat.reduceBEq, Nat.reduceSub, EE.down]
      obtain ⟨s7, hs7, h⟩ := Option.bind_eq_some_iff.1 h
      obtain ⟨hle, es7⟩ := cat_some hs7
      refine ⟨hle, ?_⟩
      first | rw [← es7] | subst es7
      try simp only [VW.down, Nat.reduceEqDiff, reduceCtorEq, Nat.reduceAdd, Nat.reduceLeDiff, Nat.reduceLT, Nat.reduceBEq, Nat.reduceSub, EE.down]
      obtain ⟨t8, ht8, h⟩ := Option.bind_eq_some_iff.1 h
      refine callX_n [] (F49d_ok ht8) ?_ ?_ ?_ ?_ ?_ ?_
      · first | rfl | simp [nrmA, nrmC, nrm, A1.ren, C.ren, rn, List.length_set]
      · simp [liveAll, A1.live, C.live]
      · rfl
      · decide
      · exact trivial
      simp only [VW.down, Nat.reduceEqDiff, reduceCtorEq, Nat.reduceAdd, Nat.reduceLeDiff, Nat.reduceLT, Nat.reduceBEq, Nat.reduceSub, EE.down]
      obtain ⟨s9, hs9, h⟩ := Option.bind_eq_some_iff.1 h
      obtain ⟨hle, es9⟩ := cat_some hs9
      refine ⟨hle, ?_⟩
      first | rw [← es9] | subst es9
      try simp only [VW.down, Nat.reduceEqDiff, reduceCtorEq, Nat.reduceAdd, Nat.reduceLeDiff, Nat.reduceLT, Nat.reduceBEq, Nat.reduceSub, EE.down]
      obtain ⟨s10, hs10, h⟩ := Option.bind_eq_some_iff.1 h
      obtain ⟨hle, es10⟩ := cat_some hs10
      refine ⟨hle, ?_⟩
      first | rw [← es10] | subst es10
      try simp only [VW.down, Nat.reduceEqDiff, reduceCtorEq, Nat.reduceAdd, Nat.reduceLeDiff, Nat.reduceLT, Nat.reduceBEq, Nat.reduceSub, EE.down]
      obtain rfl := Option.some.inj h
      exact eF []
    · have h := (if_neg c6).symm.trans h
      simp only [VW.down, Nat.reduceEqDiff, reduceCtorEq, Nat.reduceAdd, Nat.reduceLeDiff, Nat.reduceLT, Nat.reduceBEq, Nat.reduceSub, EE.down]
      refine condS (fun c11 => ?_) (fun c11 => ?_)
      · have h := (if_pos c11).symm.trans h
        simp only [VW.down, Nat.reduceEqDiff, reduceCtorEq, Nat.reduceAdd, Nat.reduceLeDiff, Nat.reduceLT, Nat.reduceBEq, Nat.reduceSub, EE.down]
        obtain ⟨s12, hs12, h⟩ := Option.bind_eq_some_iff.1 h
        obtain ⟨hle, es12⟩ := cat_some hs12
        refine ⟨hle, ?_⟩
        first | rw [← es12] | subst es12
        try simp only [VW.down, Nat.reduceEqDiff, reduceCtorEq, Nat.reduceAdd, Nat.reduceLeDiff, Nat.reduceLT, Nat.reduceBEq, Nat.reduceSub, EE.down]
        obtain rfl := Option.some.inj h
        exact eF []
      · have h := (if_neg c11).symm.trans h
        simp only [VW.down, Nat.reduceEqDiff, reduceCtorEq, Nat.reduceAdd, Nat.reduceLeDiff, Nat.reduceLT, Nat.reduceBEq, Nat.reduceSub, EE.down]
        obtain rfl := Option.some.inj h
        exact eF []

/- orchestrator/label.Print -/
def F27_l3  : List Requirement → Nat → (List ByteArray) → Option ((List ByteArray))
  | [], o3_1, o3_0 => some o3_0
  | xo3 :: xs, o3_1, o3_0 => (F48 xo3).bind fun t5 => (apI o3_0 ([t5])).bind fun a6 => F27_l3  xs (o3_1 + 1) a6
def F27 (x0 : (List Requirement)) : Option (ByteArray × Int) := (F15 x0).bind fun t1 => (if (nb t1) = true then some (((⟨#[]⟩ : ByteArray), 1)) else (((ck (0 ≤ x0.length ∧ x0.length ≤ 4294967290)).bind fun u7 => F27_l3 x0 0 ([])).bind fun o3 => (joinI o3 ((⟨#[44, 32]⟩ : ByteArray))).bind fun t8 => (if 20000 < (t8.size : Int) then some (((⟨#[]⟩ : ByteArray), 4)) else some ((t8, 0)))))
def a27 : AFn := ⟨29, [(.tmp 2), (.tmp 3)],
 (.seq (.reg [⟨(some 2), none, .mv (kS ⟨#[]⟩), [], (.new [])⟩,
   ⟨(some 3), none, .mv (kI 0), [], (.new [])⟩])
 (.seq (.seq (.reg [⟨(some 8), none, .mv (.t 0), [], (.new [])⟩,
   ⟨(some 9), none, .call 15 [(.t 8)], [], (.new [])⟩,
   ⟨(some 10), none, .not (.t 9), [], (.new [])⟩])
 (.cond (.t 10)
 (.seq (.reg [⟨(some 2), none, .mv (kS ⟨#[]⟩), [], (.new [])⟩,
   ⟨(some 3), none, .mv (kI 1), [], (.new [])⟩])
 .ret)
 .skip))
 (.seq (.reg [⟨(some 4), none, .mv kN, [], (.new [])⟩])
 (.seq (.seq (.reg [⟨(some 11), none, .mv (.t 0), [], (.new [])⟩,
   ⟨(some 12), none, .len (.t 11), [], (.new [])⟩,
   ⟨(some 13), none, .mv (kI 0), [], (.new [])⟩])
 (.sem (.block 0 (.loop (.seq (.reg [⟨(some 14), none, .bin .lss (.t 13) (.t 12), [], (.new [])⟩])
 (.seq (.cond (.t 14)
 .skip
 (.exit 0))
 (.seq (.block 1 (.seq (.reg [⟨(some 15), none, .indexA 3 (.t 11) (.t 13), [], (.new [])⟩,
   ⟨(some 16), none, .load (some 3) (.t 15), [], (.new [])⟩,
   ⟨(some 6), none, .zbox [.d (.v (.string ⟨#[]⟩)), .d (.v (.int .i64 0)), .d (.v (.slice none 0 0))], [], (.new [])⟩,
   ⟨none, none, .store 3 (.t 6) (.t 16), [], (.new [])⟩])
 (.reg [⟨(some 17), none, .mv (.t 4), [], (.new [])⟩,
   ⟨(some 18), none, .load (some 3) (.t 6), [], (.new [])⟩,
   ⟨(some 19), none, .call 48 [(.t 18)], [], (.new [])⟩,
   ⟨(some 20), none, .bslice 1 [(.t 19)], [], (.new [])⟩,
   ⟨(some 21), none, .app 1 16 (.t 17) (.t 20), [], (.new [])⟩,
   ⟨(some 4), none, .mv (.t 21), [], (.new [])⟩])))
 (.reg [⟨(some 22), none, .bin .add (.t 13) (kI 1), [], (.new [])⟩,
   ⟨(some 13), none, .mv (.t 22), [], (.new [])⟩]))))))))
 (.seq (.reg [⟨(some 23), none, .mv (.t 4), [], (.new [])⟩,
   ⟨(some 24), none, .call 49 [(.t 23), (kS ⟨#[44, 32]⟩)], [], (.new [])⟩,
   ⟨(some 7), none, .mv (.t 24), [], (.new [])⟩])
 (.seq (.seq (.reg [⟨(some 25), none, .mv (.t 7), [], (.new [])⟩,
   ⟨(some 26), none, .slen (.t 25), [], (.new [])⟩,
   ⟨(some 27), none, .bin .gtr (.t 26) (kI 20000), [], (.new [])⟩])
 (.cond (.t 27)
 (.seq (.reg [⟨(some 2), none, .mv (kS ⟨#[]⟩), [], (.new [])⟩,
   ⟨(some 3), none, .mv (kI 4), [], (.new [])⟩])
 .ret)
 .skip))
 (.seq (.reg [⟨(some 28), none, .mv (.t 7), [], (.new [])⟩,
   ⟨(some 2), none, .mv (.t 28), [], (.new [])⟩,
   ⟨(some 3), none, .mv (kI 0), [], (.new [])⟩])
 .ret)))))))⟩
theorem a27_ok : afn Try.prog 27 = some a27.er := by kernel_rfl
theorem F27_ok {x0 : (List Requirement)} {r : ByteArray × Int} (h : F27 x0 = some r) : CallD Try.prog 27 [.c (.d (.sl (x0.map eRequirement)))] [] (tupV [.c (.d (.v (.string r.1))), .c (.d (.v (.int .i64 r.2)))]) [] := by
  refine callS a27_ok (by simp [a27]) ?_
  rw [F27] at h
  simp only [a27, VW.down, Nat.reduceEqDiff, reduceCtorEq, Nat.reduceAdd, Nat.reduceLeDiff, Nat.reduceLT, Nat.reduceBEq, Nat.reduceSub, EE.down]
  obtain ⟨t1, ht1, h⟩ := Option.bind_eq_some_iff.1 h
  refine callX_n [] (F15_ok ht1) ?_ ?_ ?_ ?_ ?_ ?_
  · first | rfl | simp [nrmA, nrmC, nrm, A1.ren, C.ren, rn, List.length_set]
  · simp [liveAll, A1.live, C.live]
  · rfl
  · decide
  · exact trivial
  simp only [VW.down, Nat.reduceEqDiff, reduceCtorEq, Nat.reduceAdd, Nat.reduceLeDiff, Nat.reduceLT, Nat.reduceBEq, Nat.reduceSub, EE.down]
  refine condB (fun c2 => ?_) (fun c2 => ?_)
  · have h := (if_pos c2).symm.trans h
    simp only [VW.down, Nat.reduceEqDiff, reduceCtorEq, Nat.reduceAdd, Nat.reduceLeDiff, Nat.reduceLT, Nat.reduceBEq, Nat.reduceSub, EE.down]
    obtain rfl := Option.some.inj h
    exact eF []
  · have h := (if_neg c2).symm.trans h
    simp only [VW.down, Nat.reduceEqDiff, reduceCtorEq, Nat.reduceAdd, Nat.reduceLeDiff, Nat.reduceLT, Nat.reduceBEq, Nat.reduceSub, EE.down]
    obtain ⟨o3, ho, h⟩ := Option.bind_eq_some_iff.1 h
    refine cutS (fun s => s = ⟨[(4, .one (.c (.own 0 0 0 (o3.length) none)))], [some (.arr 0 1 (o3.map eS))]⟩) ?_ ?_
    · have h := ho
      clear ho
      obtain ⟨_, hk, h⟩ := Option.bind_eq_some_iff.1 h
      have hk := ck_some hk
      simp only [VW.down, Nat.reduceEqDiff, reduceCtorEq, Nat.reduceAdd, Nat.reduceLeDiff, Nat.reduceLT, Nat.reduceBEq, Nat.reduceSub, EE.down]
      refine bL (fun j s => ∃ (o3_1 : Nat) (o3_0 : List ByteArray), (o3_1 ≤ x0.length ∧ j = x0.length - o3_1) ∧ s = ⟨[(4, .one (.c (.own 0 0 0 (o3_0.length) none))), (11, .one (.c (.d (.sl (x0.map eRequirement))))), (12, .one (.c (.d (.v (.int .i64 ((x0.length : Int))))))), (13, .one (.c (.d (.v (.int .i64 ((o3_1 : Int)))))))], [some (.arr 0 1 (o3_0.map eS))]⟩ ∧ F27_l3 (x0.drop o3_1) o3_1 o3_0 = some o3) (x0.length - 0) [none] ⟨0, [], ⟨hk.1, rfl⟩, rfl, h⟩ ?_
      rintro _ _ ⟨o3_1, o3_0, ⟨hi, rfl⟩, rfl, h⟩
      simp only [VW.down, Nat.reduceEqDiff, reduceCtorEq, Nat.reduceAdd, Nat.reduceLeDiff, Nat.reduceLT, Nat.reduceBEq, Nat.reduceSub, EE.down]
      refine condS (fun c4 => ?_) (fun c4 => ?_)
      · obtain ⟨xo3, hxo3, hd⟩ := countY (show (o3_1 : Int) < (x0.length : Int) from c4)
        rw [hd, F27_l3] at h
        simp only [VW.down, Nat.reduceEqDiff, reduceCtorEq, Nat.reduceAdd, Nat.reduceLeDiff, Nat.reduceLT, Nat.reduceBEq, Nat.reduceSub, EE.down]
        refine t_idxF (enc := eRequirement) (xs := x0) rfl rfl hxo3 rfl ?_
        simp only [VW.down, Nat.reduceEqDiff, reduceCtorEq, Nat.reduceAdd, Nat.reduceLeDiff, Nat.reduceLT, Nat.reduceBEq, Nat.reduceSub, EE.down]
        obtain ⟨t5, ht5, h⟩ := Option.bind_eq_some_iff.1 h
        refine callX_n [] (F48_ok ht5) ?_ ?_ ?_ ?_ ?_ ?_
        · first | rfl | simp [nrmA, nrmC, nrm, A1.ren, C.ren, rn, List.length_set]
        · simp [liveAll, A1.live, C.live]
        · rfl
        · decide
        · exact trivial
        simp only [VW.down, Nat.reduceEqDiff, reduceCtorEq, Nat.reduceAdd, Nat.reduceLeDiff, Nat.reduceLT, Nat.reduceBEq, Nat.reduceSub, EE.down]
        refine t_bslice (enc := eS) (ys := [t5]) rfl rfl (by simp [A1.cells]) (by first | rfl | (simp only [List.drop_zero, take_mapL]; rfl)) ?_
        simp only [VW.down, Nat.reduceEqDiff, reduceCtorEq, Nat.reduceAdd, Nat.reduceLeDiff, Nat.reduceLT, Nat.reduceBEq, Nat.reduceSub, EE.down]
        obtain ⟨a6, ha6, h⟩ := Option.bind_eq_some_iff.1 h
        refine t_app (enc := eS) (xs := o3_0) rfl rfl (by first | rfl | simp only [List.length_set] | exact (clrL_len (slI_len (by assumption))).symm) rfl (rows_full (enc := eS) (by first | rfl | simp only [List.length_set] | exact (clrL_len (slI_len (by assumption))).symm) rfl) ha6 ?_
        simp only [VW.down, Nat.reduceEqDiff, reduceCtorEq, Nat.reduceAdd, Nat.reduceLeDiff, Nat.reduceLT, Nat.reduceBEq, Nat.reduceSub, EE.down]
        rw [wrapN (by omega)]
        exact eL' (x0.length - (o3_1 + 1)) [some 0] ⟨o3_1 + 1, a6, ⟨by omega, rfl⟩, rfl, h⟩ (by omega)
      · rw [countN (show ¬ ((o3_1 : Int) < (x0.length : Int)) from c4), F27_l3] at h
        simp only [VW.down, Nat.reduceEqDiff, reduceCtorEq, Nat.reduceAdd, Nat.reduceLeDiff, Nat.reduceLT, Nat.reduceBEq, Nat.reduceSub, EE.down]
        obtain rfl := Option.some.inj h
        exact eM [some 0] rfl
    · rintro _ rfl
      clear ho
      simp only [VW.down, Nat.reduceEqDiff, reduceCtorEq, Nat.reduceAdd, Nat.reduceLeDiff, Nat.reduceLT, Nat.reduceBEq, Nat.reduceSub, EE.down]
      obtain ⟨t8, ht8, h⟩ := Option.bind_eq_some_iff.1 h
      refine callX_bor (F49d_ok ht8) (by simp only [borAs, bors, hp, List.getElem?_cons_zero, List.getElem?_cons_succ, Option.join_some, List.drop_zero, bor_full', true_and, Nat.zero_add, List.length_map, Nat.le_refl, nrm, List.length_cons, List.length_nil, Nat.reduceAdd, Nat.reduceLeDiff, List.take_succ_cons, List.take_zero, List.take_nil, List.map_cons, List.map_nil, List.length_set, EE.down]) rfl ?_
      simp only [VW.down, Nat.reduceEqDiff, reduceCtorEq, Nat.reduceAdd, Nat.reduceLeDiff, Nat.reduceLT, Nat.reduceBEq, Nat.reduceSub, EE.down]
      refine condS (fun c9 => ?_) (fun c9 => ?_)
      · have h := (if_pos c9).symm.trans h
        simp only [VW.down, Nat.reduceEqDiff, reduceCtorEq, Nat.reduceAdd, Nat.reduceLeDiff, Nat.reduceLT, Nat.reduceBEq, Nat.reduceSub, EE.down]
        obtain rfl := Option.some.inj h
        exact eF []
      · have h := (if_neg c9).symm.trans h
        simp only [VW.down, Nat.reduceEqDiff, reduceCtorEq, Nat.reduceAdd, Nat.reduceLeDiff, Nat.reduceLT, Nat.reduceBEq, Nat.reduceSub, EE.down]
        obtain rfl := Option.some.inj h
        exact eF []

/- slices.overlaps[orchestrator/api.Label] -/
noncomputable def fn55 : Func := (Try.prog.funcs[55]?).getD default
theorem fn55_ok : Try.prog.funcs[55]? = some fn55 := by kernel_rfl
theorem ov55 (e0 e1 o0 o1 l0 l1 : Nat) (c0 c1 : Option Nat) (r0 r1 : List (List D)) :
    CallD Try.prog 55 [.c (.own 0 e0 o0 l0 c0), .c (.own 1 e1 o1 l1 c1)] [some (.arr e0 2 r0), some (.arr e1 2 r1)] (.one (aB false)) [some (.arr e0 2 r0), some (.arr e1 2 r1)] :=
  ovl_callD (tS := 22) (tT := 4) (e := 45) (ps := #[22, 22]) (rs := #[4]) fn55_ok (by kernel_rfl) (by kernel_rfl) (by kernel_rfl) (by kernel_rfl) rfl rfl (by kernel_rfl) (by kernel_rfl) e0 e1 o0 o1 l0 l1 c0 c1 r0 r1

/- slices.Insert[[]orchestrator/api.Label,orchestrator/api.Label] -/
theorem a37_ok : afn Try.prog 37 = some (insertA 2 32 [.v (.string ⟨#[]⟩), .v (.string ⟨#[]⟩)] 55 56) := by kernel_rfl
theorem F37_ok {x0 r : List Label} {i : Int} {x : Label} {e0 e1 : Nat} (h : insI x0 i x = some r) : CallD Try.prog 37 [.c (.own 0 e0 0 x0.length none), aI i, .c (.own 1 e1 0 [x].length none)] [some (.arr e0 2 (x0.map eLabel)), some (.arr e1 2 ([x].map eLabel))] (tupV [.c (.own 0 (e0 + 1) 0 r.length none)]) [some (.arr (e0 + 1) 2 (r.map eLabel)), some (.arr e1 2 ([x].map eLabel))] := L_insert a37_ok ov55 (fun _ => rfl) h

/- orchestrator/label.With -/
def F20_l2 (x1 : ByteArray) : List Label → Nat → (List Label) → Int → Option ((List Label) × Int)
  | [], o2_2, o2_0, o2_1 => some ((o2_0, o2_1))
  | xo2 :: xs, o2_2, o2_0, o2_1 => (((if xo2.Key = x1 then some ((o2_0, o2_1)) else (((((if o2_1 < 0 then some (nb (Op.bytesLess xo2.Key.toList x1.toList || decide (xo2.Key = x1))) else some false)).bind fun o7 => (if o7 = true then some ((o2_0.length : Int)) else some o2_1))).bind fun o6 => (apI o2_0 ([xo2])).bind fun a10 => some ((a10, o6))))).bind fun o4 => F20_l2 x1 xs (o2_2 + 1) o4.1 o4.2)
def F20 (x0 : (List Label)) (x1 : ByteArray) (x2 : ByteArray) : Option ((List Label)) := (mkI ((⟨(⟨#[]⟩ : ByteArray), (⟨#[]⟩ : ByteArray)⟩ : Label)) 0 ((IntKind.i64.wrap (((x0.length : Int)) + 1)))).bind fun m1 => (((ck (0 ≤ x0.length ∧ x0.length ≤ 4294967290)).bind fun u11 => F20_l2 x1 x0 0 m1 ((-1))).bind fun o2 => (((if o2.2 < 0 then some ((o2.1.length : Int)) else some o2.2)).bind fun o12 => (insI o2.1 o12 ((⟨x1, x2⟩ : Label))).bind fun t14 => some t14))
def a20 : AFn := ⟨51, [(.tmp 6)],
 (.seq (.reg [⟨(some 6), none, .mv kN, [], (.new [])⟩])
 (.seq (.reg [⟨(some 11), none, .mv (.t 0), [], (.new [])⟩,
   ⟨(some 12), none, .len (.t 11), [], (.new [])⟩,
   ⟨(some 13), none, .bin .add (.t 12) (kI 1), [], (.new [])⟩,
   ⟨(some 14), none, .mk 2 32 [.v (.string ⟨#[]⟩), .v (.string ⟨#[]⟩)] (kI 0) (.t 13), [], (.new [])⟩,
   ⟨(some 7), none, .mv (.t 14), [], (.new [])⟩])
 (.seq (.reg [⟨(some 8), none, .mv (kI (-1)), [], (.new [])⟩])
 (.seq (.seq (.reg [⟨(some 15), none, .mv (.t 0), [], (.new [])⟩,
   ⟨(some 16), none, .len (.t 15), [], (.new [])⟩,
   ⟨(some 17), none, .mv (kI 0), [], (.new [])⟩])
 (.sem (.block 0 (.loop (.seq (.reg [⟨(some 18), none, .bin .lss (.t 17) (.t 16), [], (.new [])⟩])
 (.seq (.cond (.t 18)
 .skip
 (.exit 0))
 (.seq (.sem (.block 1 (.seq (.reg [⟨(some 19), none, .indexA 2 (.t 15) (.t 17), [], (.new [])⟩,
   ⟨(some 20), none, .load (some 2) (.t 19), [], (.new [])⟩,
   ⟨(some 10), none, .zbox [.d (.v (.string ⟨#[]⟩)), .d (.v (.string ⟨#[]⟩))], [], (.new [])⟩,
   ⟨none, none, .store 2 (.t 10) (.t 20), [], (.new [])⟩])
 (.seq (.seq (.reg [⟨(some 21), none, .fieldA 0 (.t 10), [], (.new [])⟩,
   ⟨(some 22), none, .load none (.t 21), [], (.new [])⟩,
   ⟨(some 23), none, .mv (.t 1), [], (.new [])⟩,
   ⟨(some 24), none, .bin .eql (.t 22) (.t 23), [], (.new [])⟩])
 (.cond (.t 24)
 (.exit 1)
 .skip))
 (.seq (.sem (.seq (.sem (.reg [⟨(some 25), none, .mv (.t 8), [], (.new [])⟩,
   ⟨(some 26), none, .bin .lss (.t 25) (kI 0), [], (.new [])⟩,
   ⟨(some 27), none, .mv (.t 26), [], (.new [])⟩,
   ⟨(some 28), (some (27, true)), .fieldA 0 (.t 10), [], (.new [])⟩,
   ⟨(some 29), (some (27, true)), .load none (.t 28), [], (.new [])⟩,
   ⟨(some 30), (some (27, true)), .mv (.t 1), [], (.new [])⟩,
   ⟨(some 31), (some (27, true)), .bin .gtr (.t 29) (.t 30), [], (.new [])⟩,
   ⟨(some 32), none, .pick (.t 27) (.t 31) (kB false), [], (.lone [10, 28])⟩]))
 (.cond (.t 32)
 (.reg [⟨(some 33), none, .mv (.t 7), [], (.new [])⟩,
   ⟨(some 34), none, .len (.t 33), [], (.new [])⟩,
   ⟨(some 8), none, .mv (.t 34), [], (.new [])⟩])
 .skip)))
 (.reg [⟨(some 35), none, .mv (.t 7), [], (.new [])⟩,
   ⟨(some 36), none, .load (some 2) (.t 10), [], (.new [])⟩,
   ⟨(some 37), none, .bslice 2 [(.t 36)], [], (.new [])⟩,
   ⟨(some 38), none, .app 2 32 (.t 35) (.t 37), [], (.new [])⟩,
   ⟨(some 7), none, .mv (.t 38), [], (.new [])⟩]))))))
 (.reg [⟨(some 39), none, .bin .add (.t 17) (kI 1), [], (.new [])⟩,
   ⟨(some 17), none, .mv (.t 39), [], (.new [])⟩]))))))))
 (.seq (.sem (.seq (.reg [⟨(some 40), none, .mv (.t 8), [], (.new [])⟩,
   ⟨(some 41), none, .bin .lss (.t 40) (kI 0), [], (.new [])⟩])
 (.cond (.t 41)
 (.reg [⟨(some 42), none, .mv (.t 7), [], (.new [])⟩,
   ⟨(some 43), none, .len (.t 42), [], (.new [])⟩,
   ⟨(some 8), none, .mv (.t 43), [], (.new [])⟩])
 .skip)))
 (.seq (.reg [⟨(some 44), none, .mv (.t 7), [], (.new [])⟩,
   ⟨(some 45), none, .mv (.t 8), [], (.new [])⟩,
   ⟨(some 46), none, .mv (.t 1), [], (.new [])⟩,
   ⟨(some 47), none, .mv (.t 2), [], (.new [])⟩,
   ⟨(some 48), none, .build [.d (.v (.string ⟨#[]⟩)), .d (.v (.string ⟨#[]⟩))] [(0, 1, (.t 46)), (1, 1, (.t 47))], [], (.new [])⟩,
   ⟨(some 49), none, .bslice 2 [(.t 48)], [], (.new [])⟩,
   ⟨(some 50), none, .call 37 [(.t 44), (.t 45), (.t 49)], [], (.new [])⟩,
   ⟨(some 6), none, .mv (.t 50), [], (.new [])⟩])
 .ret))))))⟩
theorem a20_ok : afn Try.prog 20 = some a20.er := by kernel_rfl
theorem F20_ok {x0 : (List Label)} {x1 : ByteArray} {x2 : ByteArray} {r : (List Label)} (h : F20 x0 x1 x2 = some r) : CallD Try.prog 20 [.c (.d (.sl (x0.map eLabel))), .c (.d (.v (.string x1))), .c (.d (.v (.string x2)))] [] (tupV [.c (.own 0 0 0 (r.length) none)]) [some (.arr 0 2 (r.map eLabel))] := by
  refine callS a20_ok (by simp [a20]) ?_
  rw [F20] at h
  simp only [a20, VW.down, Nat.reduceEqDiff, reduceCtorEq, Nat.reduceAdd, Nat.reduceLeDiff, Nat.reduceLT, Nat.reduceBEq, Nat.reduceSub, EE.down]
  obtain ⟨m1, hm1, h⟩ := Option.bind_eq_some_iff.1 h
  refine t_mk (enc := eLabel) (z := (⟨(⟨#[]⟩ : ByteArray), (⟨#[]⟩ : ByteArray)⟩ : Label)) rfl rfl rfl hm1 ?_
  simp only [VW.down, Nat.reduceEqDiff, reduceCtorEq, Nat.reduceAdd, Nat.reduceLeDiff, Nat.reduceLT, Nat.reduceBEq, Nat.reduceSub, EE.down]
  obtain ⟨o2, ho, h⟩ := Option.bind_eq_some_iff.1 h
  refine cutS (fun s => s = ⟨[(1, .one (.c (.d (.v (.string x1))))), (2, .one (.c (.d (.v (.string x2))))), (7, .one (.c (.own 0 0 0 (o2.1.length) none))), (8, .one (.c (.d (.v (.int .i64 o2.2)))))], [some (.arr 0 2 (o2.1.map eLabel))]⟩) ?_ ?_
  · have h := ho
    clear ho
    obtain ⟨_, hk, h⟩ := Option.bind_eq_some_iff.1 h
    have hk := ck_some hk
    simp only [VW.down, Nat.reduceEqDiff, reduceCtorEq, Nat.reduceAdd, Nat.reduceLeDiff, Nat.reduceLT, Nat.reduceBEq, Nat.reduceSub, EE.down]
    refine bL (fun j s => ∃ (o2_2 : Nat) (o2_0 : List Label) (o2_1 : Int), (o2_2 ≤ x0.length ∧ j = x0.length - o2_2) ∧ s = ⟨[(1, .one (.c (.d (.v (.string x1))))), (2, .one (.c (.d (.v (.string x2))))), (7, .one (.c (.own 0 0 0 (o2_0.length) none))), (8, .one (.c (.d (.v (.int .i64 o2_1))))), (15, .one (.c (.d (.sl (x0.map eLabel))))), (16, .one (.c (.d (.v (.int .i64 ((x0.length : Int))))))), (17, .one (.c (.d (.v (.int .i64 ((o2_2 : Int)))))))], [some (.arr 0 2 (o2_0.map eLabel))]⟩ ∧ F20_l2 x1 (x0.drop o2_2) o2_2 o2_0 o2_1 = some o2) (x0.length - 0) [some 0] ⟨0, m1, (-1), ⟨hk.1, rfl⟩, rfl, h⟩ ?_
    rintro _ _ ⟨o2_2, o2_0, o2_1, ⟨hi, rfl⟩, rfl, h⟩
    simp only [VW.down, Nat.reduceEqDiff, reduceCtorEq, Nat.reduceAdd, Nat.reduceLeDiff, Nat.reduceLT, Nat.reduceBEq, Nat.reduceSub, EE.down]
    refine condS (fun c3 => ?_) (fun c3 => ?_)
    · obtain ⟨xo2, hxo2, hd⟩ := countY (show (o2_2 : Int) < (x0.length : Int) from c3)
      rw [hd, F20_l2] at h
      simp only [VW.down, Nat.reduceEqDiff, reduceCtorEq, Nat.reduceAdd, Nat.reduceLeDiff, Nat.reduceLT, Nat.reduceBEq, Nat.reduceSub, EE.down]
      obtain ⟨o4, ho, h⟩ := Option.bind_eq_some_iff.1 h
      refine cutS (fun s => s = ⟨[(1, .one (.c (.d (.v (.string x1))))), (2, .one (.c (.d (.v (.string x2))))), (7, .one (.c (.own 0 0 0 (o4.1.length) none))), (8, .one (.c (.d (.v (.int .i64 o4.2))))), (15, .one (.c (.d (.sl (x0.map eLabel))))), (16, .one (.c (.d (.v (.int .i64 ((x0.length : Int))))))), (17, .one (.c (.d (.v (.int .i64 ((o2_2 : Int)))))))], [some (.arr 0 2 (o4.1.map eLabel))]⟩) ?_ ?_
      · have h := ho
        clear ho
        simp only [VW.down, Nat.reduceEqDiff, reduceCtorEq, Nat.reduceAdd, Nat.reduceLeDiff, Nat.reduceLT, Nat.reduceBEq, Nat.reduceSub, EE.down]
        refine t_idxF (enc := eLabel) (xs := x0) rfl rfl hxo2 rfl ?_
        simp only [VW.down, Nat.reduceEqDiff, reduceCtorEq, Nat.reduceAdd, Nat.reduceLeDiff, Nat.reduceLT, Nat.reduceBEq, Nat.reduceSub, EE.down]
        refine condS (fun c5 => ?_) (fun c5 => ?_)
        · have h := (if_pos c5).symm.trans h
          simp only [VW.down, Nat.reduceEqDiff, reduceCtorEq, Nat.reduceAdd, Nat.reduceLeDiff, Nat.reduceLT, Nat.reduceBEq, Nat.reduceSub, EE.down]
          obtain rfl := Option.some.inj h
          exact eM [some 0] rfl
        · have h := (if_neg c5).symm.trans h
          simp only [VW.down, Nat.reduceEqDiff, reduceCtorEq, Nat.reduceAdd, Nat.reduceLeDiff, Nat.reduceLT, Nat.reduceBEq, Nat.reduceSub, EE.down]
          obtain ⟨o6, ho, h⟩ := Option.bind_eq_some_iff.1 h
          refine cutS (fun s => s = ⟨[(1, .one (.c (.d (.v (.string x1))))), (2, .one (.c (.d (.v (.string x2))))), (7, .one (.c (.own 0 0 0 (o2_0.length) none))), (8, .one (.c (.d (.v (.int .i64 o6))))), (10, .one (.c (.pt 1 0))), (15, .one (.c (.d (.sl (x0.map eLabel))))), (16, .one (.c (.d (.v (.int .i64 ((x0.length : Int))))))), (17, .one (.c (.d (.v (.int .i64 ((o2_2 : Int)))))))], [some (.arr 0 2 (o2_0.map eLabel)), some (.box [.d (.v (.string xo2.Key)), .d (.v (.string xo2.Value))])]⟩) ?_ ?_
          · have h := ho
            clear ho
            simp only [VW.down, Nat.reduceEqDiff, reduceCtorEq, Nat.reduceAdd, Nat.reduceLeDiff, Nat.reduceLT, Nat.reduceBEq, Nat.reduceSub, EE.down]
            obtain ⟨o7, ho, h⟩ := Option.bind_eq_some_iff.1 h
            refine cutS (fun s => s = ⟨[(1, .one (.c (.d (.v (.string x1))))), (2, .one (.c (.d (.v (.string x2))))), (7, .one (.c (.own 0 0 0 (o2_0.length) none))), (8, .one (.c (.d (.v (.int .i64 o2_1))))), (10, .one (.c (.pt 1 0))), (15, .one (.c (.d (.sl (x0.map eLabel))))), (16, .one (.c (.d (.v (.int .i64 ((x0.length : Int))))))), (17, .one (.c (.d (.v (.int .i64 ((o2_2 : Int))))))), (32, .one (.c (.d (.v (.bool o7)))))], [some (.arr 0 2 (o2_0.map eLabel)), some (.box [.d (.v (.string xo2.Key)), .d (.v (.string xo2.Value))])]⟩) ?_ ?_
            · have h := ho
              clear ho
              simp only [VW.down, Nat.reduceEqDiff, reduceCtorEq, Nat.reduceAdd, Nat.reduceLeDiff, Nat.reduceLT, Nat.reduceBEq, Nat.reduceSub, EE.down]
              refine guardS (fun g8 => ?_) (fun g8 => ?_)
              · have h := (if_pos g8).symm.trans h
                simp only [VW.down, Nat.reduceEqDiff, reduceCtorEq, Nat.reduceAdd, Nat.reduceLeDiff, Nat.reduceLT, Nat.reduceBEq, Nat.reduceSub, EE.down]
                obtain rfl := Option.some.inj h
                exact eM [some 0, some 1] rfl
              · have h := (if_neg g8).symm.trans h
                simp only [VW.down, Nat.reduceEqDiff, reduceCtorEq, Nat.reduceAdd, Nat.reduceLeDiff, Nat.reduceLT, Nat.reduceBEq, Nat.reduceSub, EE.down]
                obtain rfl := Option.some.inj h
                exact eM [some 0, some 1] rfl
            · rintro _ rfl
              clear ho
              simp only [VW.down, Nat.reduceEqDiff, reduceCtorEq, Nat.reduceAdd, Nat.reduceLeDiff, Nat.reduceLT, Nat.reduceBEq, Nat.reduceSub, EE.down]
              refine condB (fun c9 => ?_) (fun c9 => ?_)
              · have h := (if_pos c9).symm.trans h
                simp only [VW.down, Nat.reduceEqDiff, reduceCtorEq, Nat.reduceAdd, Nat.reduceLeDiff, Nat.reduceLT, Nat.reduceBEq, Nat.reduceSub, EE.down]
                obtain rfl := Option.some.inj h
                exact eM [some 0, some 1] rfl
              · have h := (if_neg c9).symm.trans h
                simp only [VW.down, Nat.reduceEqDiff, reduceCtorEq, Nat.reduceAdd, Nat.reduceLeDiff, Nat.reduceLT, Nat.reduceBEq, Nat.reduceSub, EE.down]
                obtain rfl := Option.some.inj h
                exact eM [some 0, some 1] rfl
          · rintro _ rfl
            clear ho
            simp only [VW.down, Nat.reduceEqDiff, reduceCtorEq, Nat.reduceAdd, Nat.reduceLeDiff, Nat.reduceLT, Nat.reduceBEq, Nat.reduceSub, EE.down]
            refine t_bslice (enc := eLabel) (ys := [xo2]) rfl rfl (by simp [A1.cells]) (by first | rfl | (simp only [List.drop_zero, take_mapL]; rfl)) ?_
            simp only [VW.down, Nat.reduceEqDiff, reduceCtorEq, Nat.reduceAdd, Nat.reduceLeDiff, Nat.reduceLT, Nat.reduceBEq, Nat.reduceSub, EE.down]
            obtain ⟨a10, ha10, h⟩ := Option.bind_eq_some_iff.1 h
            refine t_app (enc := eLabel) (xs := o2_0) rfl rfl (by first | rfl | simp only [List.length_set] | exact (clrL_len (slI_len (by assumption))).symm) rfl (rows_full (enc := eLabel) (by first | rfl | simp only [List.length_set] | exact (clrL_len (slI_len (by assumption))).symm) rfl) ha10 ?_
            simp only [VW.down, Nat.reduceEqDiff, reduceCtorEq, Nat.reduceAdd, Nat.reduceLeDiff, Nat.reduceLT, Nat.reduceBEq, Nat.reduceSub, EE.down]
            obtain rfl := Option.some.inj h
            exact eM [some 0] rfl
      · rintro _ rfl
        clear ho
        simp only [VW.down, Nat.reduceEqDiff, reduceCtorEq, Nat.reduceAdd, Nat.reduceLeDiff, Nat.reduceLT, Nat.reduceBEq, Nat.reduceSub, EE.down]
        rw [wrapN (by omega)]
        exact eL' (x0.length - (o2_2 + 1)) [some 0] ⟨o2_2 + 1, o4.1, o4.2, ⟨by omega, rfl⟩, rfl, h⟩ (by omega)
    · rw [countN (show ¬ ((o2_2 : Int) < (x0.length : Int)) from c3), F20_l2] at h
      simp only [VW.down, Nat.reduceEqDiff, reduceCtorEq, Nat.reduceAdd, Nat.reduceLeDiff, Nat.reduceLT, Nat.reduceBEq, Nat.reduceSub, EE.down]
      obtain rfl := Option.some.inj h
      exact eM [some 0] rfl
  · rintro _ rfl
    clear ho
    simp only [VW.down, Nat.reduceEqDiff, reduceCtorEq, Nat.reduceAdd, Nat.reduceLeDiff, Nat.reduceLT, Nat.reduceBEq, Nat.reduceSub, EE.down]
    obtain ⟨o12, ho, h⟩ := Option.bind_eq_some_iff.1 h
    refine cutS (fun s => s = ⟨[(1, .one (.c (.d (.v (.string x1))))), (2, .one (.c (.d (.v (.string x2))))), (7, .one (.c (.own 0 0 0 (o2.1.length) none))), (8, .one (.c (.d (.v (.int .i64 o12)))))], [some (.arr 0 2 (o2.1.map eLabel))]⟩) ?_ ?_
    · have h := ho
      clear ho
      simp only [VW.down, Nat.reduceEqDiff, reduceCtorEq, Nat.reduceAdd, Nat.reduceLeDiff, Nat.reduceLT, Nat.reduceBEq, Nat.reduceSub, EE.down]
      refine condS (fun c13 => ?_) (fun c13 => ?_)
      · have h := (if_pos c13).symm.trans h
        simp only [VW.down, Nat.reduceEqDiff, reduceCtorEq, Nat.reduceAdd, Nat.reduceLeDiff, Nat.reduceLT, Nat.reduceBEq, Nat.reduceSub, EE.down]
        obtain rfl := Option.some.inj h
        exact eM [some 0] rfl
      · have h := (if_neg c13).symm.trans h
        simp only [VW.down, Nat.reduceEqDiff, reduceCtorEq, Nat.reduceAdd, Nat.reduceLeDiff, Nat.reduceLT, Nat.reduceBEq, Nat.reduceSub, EE.down]
        obtain rfl := Option.some.inj h
        exact eM [some 0] rfl
    · rintro _ rfl
      clear ho
      simp only [VW.down, Nat.reduceEqDiff, reduceCtorEq, Nat.reduceAdd, Nat.reduceLeDiff, Nat.reduceLT, Nat.reduceBEq, Nat.reduceSub, EE.down]
      refine t_bslice (enc := eLabel) (ys := [(⟨x1, x2⟩ : Label)]) rfl rfl (by simp [A1.cells]) (by first | rfl | (simp only [List.drop_zero, take_mapL]; rfl)) ?_
      simp only [VW.down, Nat.reduceEqDiff, reduceCtorEq, Nat.reduceAdd, Nat.reduceLeDiff, Nat.reduceLT, Nat.reduceBEq, Nat.reduceSub, EE.down]
      obtain ⟨t14, ht14, h⟩ := Option.bind_eq_some_iff.1 h
      refine callX_n [0, 1] (F37_ok (e0 := 0) (e1 := 0) ht14) ?_ ?_ ?_ ?_ ?_ ?_
      · first | rfl | simp [nrmA, nrmC, nrm, A1.ren, C.ren, rn, List.length_set]
      · simp [liveAll, A1.live, C.live, hp]
      · rfl
      · decide
      · exact ⟨⟨rfl, trivial⟩, ⟨⟨rfl, trivial⟩, trivial⟩⟩
      simp only [VW.down, Nat.reduceEqDiff, reduceCtorEq, Nat.reduceAdd, Nat.reduceLeDiff, Nat.reduceLT, Nat.reduceBEq, Nat.reduceSub, EE.down]
      obtain rfl := Option.some.inj h
      exact eF [some 0]

/- orchestrator/label.Get -/
def F17_l1 (x1 : ByteArray) : List Label → Nat → Option ((ByteArray × Bool) ⊕ (Unit))
  | [], o1_0 => some (Sum.inr (()))
  | xo1 :: xs, o1_0 => (if xo1.Key = x1 then (some ((xo1.Value, true))).map Sum.inl else F17_l1 x1 xs (o1_0 + 1))
def F17 (x0 : (List Label)) (x1 : ByteArray) : Option (ByteArray × Bool) := (((ck (0 ≤ x0.length ∧ x0.length ≤ 4294967290)).bind fun u4 => F17_l1 x1 x0 0 : Option ((ByteArray × Bool) ⊕ (Unit))).bind fun o1 => match o1 with | Sum.inl f => some f | Sum.inr po1 => some (((⟨#[]⟩ : ByteArray), false)))
def a17 : AFn := ⟨21, [(.tmp 4), (.tmp 5)],
 (.seq (.reg [⟨(some 4), none, .mv (kS ⟨#[]⟩), [], (.new [])⟩,
   ⟨(some 5), none, .mv (kB false), [], (.new [])⟩])
 (.seq (.seq (.reg [⟨(some 8), none, .mv (.t 0), [], (.new [])⟩,
   ⟨(some 9), none, .len (.t 8), [], (.new [])⟩,
   ⟨(some 10), none, .mv (kI 0), [], (.new [])⟩])
 (.sem (.block 0 (.loop (.seq (.reg [⟨(some 11), none, .bin .lss (.t 10) (.t 9), [], (.new [])⟩])
 (.seq (.cond (.t 11)
 .skip
 (.exit 0))
 (.seq (.block 1 (.seq (.reg [⟨(some 12), none, .indexA 2 (.t 8) (.t 10), [], (.new [])⟩,
   ⟨(some 13), none, .load (some 2) (.t 12), [], (.new [])⟩,
   ⟨(some 7), none, .zbox [.d (.v (.string ⟨#[]⟩)), .d (.v (.string ⟨#[]⟩))], [], (.new [])⟩,
   ⟨none, none, .store 2 (.t 7) (.t 13), [], (.new [])⟩])
 (.seq (.reg [⟨(some 14), none, .fieldA 0 (.t 7), [], (.new [])⟩,
   ⟨(some 15), none, .load none (.t 14), [], (.new [])⟩,
   ⟨(some 16), none, .mv (.t 1), [], (.new [])⟩,
   ⟨(some 17), none, .bin .eql (.t 15) (.t 16), [], (.new [])⟩])
 (.cond (.t 17)
 (.seq (.reg [⟨(some 18), none, .fieldA 1 (.t 7), [], (.new [])⟩,
   ⟨(some 19), none, .load none (.t 18), [], (.new [])⟩,
   ⟨(some 4), none, .mv (.t 19), [], (.new [])⟩,
   ⟨(some 5), none, .mv (kB true), [], (.new [])⟩])
 .ret)
 .skip))))
 (.reg [⟨(some 20), none, .bin .add (.t 10) (kI 1), [], (.new [])⟩,
   ⟨(some 10), none, .mv (.t 20), [], (.new [])⟩]))))))))
 (.seq (.reg [⟨(some 4), none, .mv (kS ⟨#[]⟩), [], (.new [])⟩,
   ⟨(some 5), none, .mv (kB false), [], (.new [])⟩])
 .ret)))⟩
theorem a17_ok : afn Try.prog 17 = some a17.er := by kernel_rfl
theorem F17_ok {x0 : (List Label)} {x1 : ByteArray} {r : ByteArray × Bool} (h : F17 x0 x1 = some r) : CallD Try.prog 17 [.c (.d (.sl (x0.map eLabel))), .c (.d (.v (.string x1)))] [] (tupV [.c (.d (.v (.string r.1))), .c (.d (.v (.bool r.2)))]) [] := by
  refine callS a17_ok (by simp [a17]) ?_
  rw [F17] at h
  simp only [a17, VW.down, Nat.reduceEqDiff, reduceCtorEq, Nat.reduceAdd, Nat.reduceLeDiff, Nat.reduceLT, Nat.reduceBEq, Nat.reduceSub, EE.down]
  obtain ⟨o1, ho, h⟩ := Option.bind_eq_some_iff.1 h
  refine cutS (fun s => ∃ po1, o1 = Sum.inr po1 ∧ s = ⟨[], []⟩) ?_ ?_
  · have h0o1 := h
    have h := ho
    clear ho
    obtain ⟨_, hk, h⟩ := Option.bind_eq_some_iff.1 h
    have hk := ck_some hk
    simp only [VW.down, Nat.reduceEqDiff, reduceCtorEq, Nat.reduceAdd, Nat.reduceLeDiff, Nat.reduceLT, Nat.reduceBEq, Nat.reduceSub, EE.down]
    refine bL (fun j s => ∃ (o1_0 : Nat), (o1_0 ≤ x0.length ∧ j = x0.length - o1_0) ∧ s = ⟨[(1, .one (.c (.d (.v (.string x1))))), (8, .one (.c (.d (.sl (x0.map eLabel))))), (9, .one (.c (.d (.v (.int .i64 ((x0.length : Int))))))), (10, .one (.c (.d (.v (.int .i64 ((o1_0 : Int)))))))], []⟩ ∧ F17_l1 x1 (x0.drop o1_0) o1_0 = some o1) (x0.length - 0) [] ⟨0, ⟨hk.1, rfl⟩, rfl, h⟩ ?_
    rintro _ _ ⟨o1_0, ⟨hi, rfl⟩, rfl, h⟩
    simp only [VW.down, Nat.reduceEqDiff, reduceCtorEq, Nat.reduceAdd, Nat.reduceLeDiff, Nat.reduceLT, Nat.reduceBEq, Nat.reduceSub, EE.down]
    refine condS (fun c2 => ?_) (fun c2 => ?_)
    · obtain ⟨xo1, hxo1, hd⟩ := countY (show (o1_0 : Int) < (x0.length : Int) from c2)
      rw [hd, F17_l1] at h
      simp only [VW.down, Nat.reduceEqDiff, reduceCtorEq, Nat.reduceAdd, Nat.reduceLeDiff, Nat.reduceLT, Nat.reduceBEq, Nat.reduceSub, EE.down]
      refine t_idxF (enc := eLabel) (xs := x0) rfl rfl hxo1 rfl ?_
      simp only [VW.down, Nat.reduceEqDiff, reduceCtorEq, Nat.reduceAdd, Nat.reduceLeDiff, Nat.reduceLT, Nat.reduceBEq, Nat.reduceSub, EE.down]
      refine condS (fun c3 => ?_) (fun c3 => ?_)
      · have h := (if_pos c3).symm.trans h
        simp only [VW.down, Nat.reduceEqDiff, reduceCtorEq, Nat.reduceAdd, Nat.reduceLeDiff, Nat.reduceLT, Nat.reduceBEq, Nat.reduceSub, EE.down]
        obtain ⟨fh0o1, hfh0o1, rfl⟩ := Option.map_eq_some_iff.1 h
        have h := hfh0o1.trans h0o1
        obtain rfl := Option.some.inj h
        exact eF []
      · have h := (if_neg c3).symm.trans h
        simp only [VW.down, Nat.reduceEqDiff, reduceCtorEq, Nat.reduceAdd, Nat.reduceLeDiff, Nat.reduceLT, Nat.reduceBEq, Nat.reduceSub, EE.down]
        rw [wrapN (by omega)]
        exact eL' (x0.length - (o1_0 + 1)) [] ⟨o1_0 + 1, ⟨by omega, rfl⟩, rfl, h⟩ (by omega)
    · rw [countN (show ¬ ((o1_0 : Int) < (x0.length : Int)) from c2), F17_l1] at h
      simp only [VW.down, Nat.reduceEqDiff, reduceCtorEq, Nat.reduceAdd, Nat.reduceLeDiff, Nat.reduceLT, Nat.reduceBEq, Nat.reduceSub, EE.down]
      obtain rfl := Option.some.inj h
      exact eM [] ⟨_, rfl, rfl⟩
  · rintro _ ⟨po1, rfl, rfl⟩
    clear ho
    dsimp only at h
    simp only [VW.down, Nat.reduceEqDiff, reduceCtorEq, Nat.reduceAdd, Nat.reduceLeDiff, Nat.reduceLT, Nat.reduceBEq, Nat.reduceSub, EE.down]
    obtain rfl := Option.some.inj h
    exact eF []

/- orchestrator/label.Valid -/
def F13_l2 (x0 : (List Label)) : List Label → Nat → Option ((Bool) ⊕ (Unit))
  | [], o2_0 => some (Sum.inr (()))
  | xo2 :: xs, o2_0 => (((F29 xo2.Key).bind fun t5 => (if (nb t5) = true then some true else (F30 xo2.Value).bind fun t7 => (if (nb t7) = true then some true else (if 0 < (o2_0 : Int) then (rdI x0 ((IntKind.i64.wrap (((o2_0 : Int)) - 1)))).bind fun y10 => some ((Op.bytesLess xo2.Key.toList y10.Key.toList || decide (xo2.Key = y10.Key))) else some false)))).bind fun o4 => (if o4 = true then (some false).map Sum.inl else F13_l2 x0 xs (o2_0 + 1)))
def F13 (x0 : (List Label)) : Option (Bool) := (if 16 < (x0.length : Int) then some false else (((ck (0 ≤ x0.length ∧ x0.length ≤ 4294967290)).bind fun u12 => F13_l2 x0 x0 0 : Option ((Bool) ⊕ (Unit))).bind fun o2 => match o2 with | Sum.inl f => some f | Sum.inr po2 => some true))
def a13 : AFn := ⟨41, [(.tmp 2)],
 (.seq (.reg [⟨(some 2), none, .mv (kB false), [], (.new [])⟩])
 (.seq (.seq (.reg [⟨(some 5), none, .mv (.t 0), [], (.new [])⟩,
   ⟨(some 6), none, .len (.t 5), [], (.new [])⟩,
   ⟨(some 7), none, .bin .gtr (.t 6) (kI 16), [], (.new [])⟩])
 (.cond (.t 7)
 (.seq (.reg [⟨(some 2), none, .mv (kB false), [], (.new [])⟩])
 .ret)
 .skip))
 (.seq (.seq (.reg [⟨(some 8), none, .mv (.t 0), [], (.new [])⟩,
   ⟨(some 9), none, .len (.t 8), [], (.new [])⟩,
   ⟨(some 10), none, .mv (kI 0), [], (.new [])⟩])
 (.sem (.block 0 (.loop (.seq (.reg [⟨(some 11), none, .bin .lss (.t 10) (.t 9), [], (.new [])⟩])
 (.seq (.cond (.t 11)
 .skip
 (.exit 0))
 (.seq (.block 1 (.seq (.reg [⟨(some 12), none, .mv (.t 10), [], (.new [])⟩,
   ⟨(some 13), none, .indexA 2 (.t 8) (.t 10), [], (.new [])⟩,
   ⟨(some 14), none, .load (some 2) (.t 13), [], (.new [])⟩,
   ⟨(some 4), none, .zbox [.d (.v (.string ⟨#[]⟩)), .d (.v (.string ⟨#[]⟩))], [], (.new [])⟩,
   ⟨(some 3), none, .mv (.t 12), [], (.new [])⟩,
   ⟨none, none, .store 2 (.t 4) (.t 14), [], (.new [])⟩])
 (.seq (.sem (.regd [⟨(some 15), none, .fieldA 0 (.t 4), [], (.new [])⟩,
   ⟨(some 16), none, .load none (.t 15), [0], (.new [])⟩,
   ⟨(some 17), none, .call 29 [(.t 16)], [0, 1], (.lone [])⟩,
   ⟨(some 18), none, .not (.t 17), [0, 1, 2], (.new [])⟩,
   ⟨(some 19), none, .mv (.t 18), [0, 1, 2, 3], (.new [])⟩,
   ⟨(some 20), (some (19, false)), .fieldA 1 (.t 4), [0, 1, 2, 3, 4], (.new [])⟩,
   ⟨(some 21), (some (19, false)), .load none (.t 20), [0, 1, 2, 3, 4, 5], (.new [])⟩,
   ⟨(some 22), (some (19, false)), .call 30 [(.t 21)], [0, 1, 2, 3, 4, 5, 6], (.lone [])⟩,
   ⟨(some 23), (some (19, false)), .not (.t 22), [0, 1, 2, 3, 4, 5, 6, 7], (.new [])⟩,
   ⟨(some 24), none, .pick (.t 19) (kB true) (.t 23), [0, 1, 2, 3, 4, 5, 6, 7, 8], (.lone [])⟩,
   ⟨(some 25), none, .mv (.t 24), [0, 1, 2, 3, 4, 5, 6, 7, 8, 9], (.new [])⟩,
   ⟨(some 26), (some (25, false)), .mv (.t 3), [0, 1, 2, 3, 4, 5, 6, 7, 8, 9, 10], (.new [])⟩,
   ⟨(some 27), (some (25, false)), .bin .gtr (.t 26) (kI 0), [0, 1, 2, 3, 4, 5, 6, 7, 8, 9, 10, 11], (.new [])⟩,
   ⟨(some 28), (some (25, false)), .mv (.t 27), [0, 1, 2, 3, 4, 5, 6, 7, 8, 9, 10, 11, 12], (.new [])⟩,
   ⟨(some 29), (some (28, true)), .fieldA 0 (.t 4), [0, 1, 2, 3, 4, 5, 6, 7, 8, 9, 10, 11, 12, 13], (.new [])⟩,
   ⟨(some 30), (some (28, true)), .load none (.t 29), [0, 1, 2, 3, 4, 5, 6, 7, 8, 9, 10, 11, 12, 13, 14], (.new [])⟩,
   ⟨(some 31), (some (28, true)), .mv (.t 0), [0, 1, 2, 3, 4, 5, 6, 7, 8, 9, 10, 11, 12, 13], (.new [])⟩,
   ⟨(some 32), (some (28, true)), .mv (.t 3), [0, 1, 2, 3, 4, 5, 6, 7, 8, 9, 10, 11, 12, 13], (.new [])⟩,
   ⟨(some 33), (some (28, true)), .bin .sub (.t 32) (kI 1), [0, 1, 2, 3, 4, 5, 6, 7, 8, 9, 10, 11, 12, 13, 17], (.new [])⟩,
   ⟨(some 34), (some (28, true)), .indexA 2 (.t 31) (.t 33), [0, 1, 2, 3, 4, 5, 6, 7, 8, 9, 10, 11, 12, 13, 16, 17, 18], (.new [])⟩,
   ⟨(some 35), (some (28, true)), .fieldA 0 (.t 34), [0, 1, 2, 3, 4, 5, 6, 7, 8, 9, 10, 11, 12, 13, 16, 17, 18, 19], (.new [])⟩,
   ⟨(some 36), (some (28, true)), .load none (.t 35), [0, 1, 2, 3, 4, 5, 6, 7, 8, 9, 10, 11, 12, 13, 16, 17, 18, 19, 20], (.new [])⟩,
   ⟨(some 37), (some (28, true)), .bin .leq (.t 30) (.t 36), [0, 1, 2, 3, 4, 5, 6, 7, 8, 9, 10, 11, 12, 13, 14, 15, 16, 17, 18, 19, 20, 21], (.new [])⟩,
   ⟨(some 38), (some (25, false)), .pick (.t 28) (.t 37) (kB false), [0, 1, 2, 3, 4, 5, 6, 7, 8, 9, 10, 11, 12, 13, 14, 15, 16, 17, 18, 19, 20, 21, 22], (.lone [])⟩,
   ⟨(some 39), none, .pick (.t 25) (kB true) (.t 38), [0, 1, 2, 3, 4, 5, 6, 7, 8, 9, 10, 11, 12, 13, 14, 15, 16, 17, 18, 19, 20, 21, 22, 23], (.lone [])⟩]))
 (.cond (.t 39)
 (.seq (.reg [⟨(some 2), none, .mv (kB false), [], (.new [])⟩])
 .ret)
 .skip))))
 (.reg [⟨(some 40), none, .bin .add (.t 10) (kI 1), [], (.new [])⟩,
   ⟨(some 10), none, .mv (.t 40), [], (.new [])⟩]))))))))
 (.seq (.reg [⟨(some 2), none, .mv (kB true), [], (.new [])⟩])
 .ret))))⟩
theorem a13_ok : afn Try.prog 13 = some a13.er := by kernel_rfl
theorem F13_ok {x0 : (List Label)} {r : Bool} (h : F13 x0 = some r) : CallD Try.prog 13 [.c (.d (.sl (x0.map eLabel)))] [] (tupV [.c (.d (.v (.bool r)))]) [] := by
  refine callS a13_ok (by simp [a13]) ?_
  rw [F13] at h
  simp only [a13, VW.down, Nat.reduceEqDiff, reduceCtorEq, Nat.reduceAdd, Nat.reduceLeDiff, Nat.reduceLT, Nat.reduceBEq, Nat.reduceSub, EE.down]
  refine condS (fun c1 => ?_) (fun c1 => ?_)
  · have h := (if_pos c1).symm.trans h
    simp only [VW.down, Nat.reduceEqDiff, reduceCtorEq, Nat.reduceAdd, Nat.reduceLeDiff, Nat.reduceLT, Nat.reduceBEq, Nat.reduceSub, EE.down]
    obtain rfl := Option.some.inj h
    exact eF []
  · have h := (if_neg c1).symm.trans h
    simp only [VW.down, Nat.reduceEqDiff, reduceCtorEq, Nat.reduceAdd, Nat.reduceLeDiff, Nat.reduceLT, Nat.reduceBEq, Nat.reduceSub, EE.down]
    obtain ⟨o2, ho, h⟩ := Option.bind_eq_some_iff.1 h
    refine cutS (fun s => ∃ po2, o2 = Sum.inr po2 ∧ s = ⟨[], []⟩) ?_ ?_
    · have h0o2 := h
      have h := ho
      clear ho
      obtain ⟨_, hk, h⟩ := Option.bind_eq_some_iff.1 h
      have hk := ck_some hk
      simp only [VW.down, Nat.reduceEqDiff, reduceCtorEq, Nat.reduceAdd, Nat.reduceLeDiff, Nat.reduceLT, Nat.reduceBEq, Nat.reduceSub, EE.down]
      refine bL (fun j s => ∃ (o2_0 : Nat), (o2_0 ≤ x0.length ∧ j = x0.length - o2_0) ∧ s = ⟨[(0, .one (.c (.d (.sl (x0.map eLabel))))), (8, .one (.c (.d (.sl (x0.map eLabel))))), (9, .one (.c (.d (.v (.int .i64 ((x0.length : Int))))))), (10, .one (.c (.d (.v (.int .i64 ((o2_0 : Int)))))))], []⟩ ∧ F13_l2 x0 (x0.drop o2_0) o2_0 = some o2) (x0.length - 0) [] ⟨0, ⟨hk.1, rfl⟩, rfl, h⟩ ?_
      rintro _ _ ⟨o2_0, ⟨hi, rfl⟩, rfl, h⟩
      simp only [VW.down, Nat.reduceEqDiff, reduceCtorEq, Nat.reduceAdd, Nat.reduceLeDiff, Nat.reduceLT, Nat.reduceBEq, Nat.reduceSub, EE.down]
      refine condS (fun c3 => ?_) (fun c3 => ?_)
      · obtain ⟨xo2, hxo2, hd⟩ := countY (show (o2_0 : Int) < (x0.length : Int) from c3)
        rw [hd, F13_l2] at h
        simp only [VW.down, Nat.reduceEqDiff, reduceCtorEq, Nat.reduceAdd, Nat.reduceLeDiff, Nat.reduceLT, Nat.reduceBEq, Nat.reduceSub, EE.down]
        refine t_idxF (enc := eLabel) (xs := x0) rfl rfl hxo2 rfl ?_
        simp only [VW.down, Nat.reduceEqDiff, reduceCtorEq, Nat.reduceAdd, Nat.reduceLeDiff, Nat.reduceLT, Nat.reduceBEq, Nat.reduceSub, EE.down]
        obtain ⟨o4, ho, h⟩ := Option.bind_eq_some_iff.1 h
        refine cutS (fun s => s = ⟨[(0, .one (.c (.d (.sl (x0.map eLabel))))), (8, .one (.c (.d (.sl (x0.map eLabel))))), (9, .one (.c (.d (.v (.int .i64 ((x0.length : Int))))))), (10, .one (.c (.d (.v (.int .i64 ((o2_0 : Int))))))), (39, .one (.c (.d (.v (.bool o4)))))], []⟩) ?_ ?_
        · have h := ho
          clear ho
          simp only [VW.down, Nat.reduceEqDiff, reduceCtorEq, Nat.reduceAdd, Nat.reduceLeDiff, Nat.reduceLT, Nat.reduceBEq, Nat.reduceSub, EE.down]
          obtain ⟨t5, ht5, h⟩ := Option.bind_eq_some_iff.1 h
          refine callX_n [] (F29_ok ht5) ?_ ?_ ?_ ?_ ?_ ?_
          · first | rfl | simp [nrmA, nrmC, nrm, A1.ren, C.ren, rn, List.length_set]
          · simp [liveAll, A1.live, C.live]
          · rfl
          · decide
          · exact trivial
          simp only [VW.down, Nat.reduceEqDiff, reduceCtorEq, Nat.reduceAdd, Nat.reduceLeDiff, Nat.reduceLT, Nat.reduceBEq, Nat.reduceSub, EE.down]
          refine guardDB (fun g6 => ?_) (fun g6 => ?_)
          · have h := (if_pos g6).symm.trans h
            simp only [VW.down, Nat.reduceEqDiff, reduceCtorEq, Nat.reduceAdd, Nat.reduceLeDiff, Nat.reduceLT, Nat.reduceBEq, Nat.reduceSub, EE.down]
            obtain rfl := Option.some.inj h
            exact eM [] rfl
          · have h := (if_neg g6).symm.trans h
            simp only [VW.down, Nat.reduceEqDiff, reduceCtorEq, Nat.reduceAdd, Nat.reduceLeDiff, Nat.reduceLT, Nat.reduceBEq, Nat.reduceSub, EE.down]
            obtain ⟨t7, ht7, h⟩ := Option.bind_eq_some_iff.1 h
            refine callX_n [] (F30_ok ht7) ?_ ?_ ?_ ?_ ?_ ?_
            · first | rfl | simp [nrmA, nrmC, nrm, A1.ren, C.ren, rn, List.length_set]
            · simp [liveAll, A1.live, C.live]
            · rfl
            · decide
            · exact trivial
            simp only [VW.down, Nat.reduceEqDiff, reduceCtorEq, Nat.reduceAdd, Nat.reduceLeDiff, Nat.reduceLT, Nat.reduceBEq, Nat.reduceSub, EE.down]
            refine guardDB (fun g8 => ?_) (fun g8 => ?_)
            · have h := (if_pos g8).symm.trans h
              simp only [VW.down, Nat.reduceEqDiff, reduceCtorEq, Nat.reduceAdd, Nat.reduceLeDiff, Nat.reduceLT, Nat.reduceBEq, Nat.reduceSub, EE.down]
              obtain rfl := Option.some.inj h
              exact eM [] rfl
            · have h := (if_neg g8).symm.trans h
              simp only [VW.down, Nat.reduceEqDiff, reduceCtorEq, Nat.reduceAdd, Nat.reduceLeDiff, Nat.reduceLT, Nat.reduceBEq, Nat.reduceSub, EE.down]
              refine guardD (fun g9 => ?_) (fun g9 => ?_)
              · have h := (if_pos g9).symm.trans h
                simp only [VW.down, Nat.reduceEqDiff, reduceCtorEq, Nat.reduceAdd, Nat.reduceLeDiff, Nat.reduceLT, Nat.reduceBEq, Nat.reduceSub, EE.down]
                obtain ⟨y10, hy10, h⟩ := Option.bind_eq_some_iff.1 h
                refine t_idxF (enc := eLabel) (xs := x0) rfl rfl hy10 rfl ?_
                simp only [VW.down, Nat.reduceEqDiff, reduceCtorEq, Nat.reduceAdd, Nat.reduceLeDiff, Nat.reduceLT, Nat.reduceBEq, Nat.reduceSub, EE.down]
                obtain rfl := Option.some.inj h
                exact eM [] rfl
              · have h := (if_neg g9).symm.trans h
                simp only [VW.down, Nat.reduceEqDiff, reduceCtorEq, Nat.reduceAdd, Nat.reduceLeDiff, Nat.reduceLT, Nat.reduceBEq, Nat.reduceSub, EE.down]
                obtain rfl := Option.some.inj h
                exact eM [] rfl
        · rintro _ rfl
          clear ho
          simp only [VW.down, Nat.reduceEqDiff, reduceCtorEq, Nat.reduceAdd, Nat.reduceLeDiff, Nat.reduceLT, Nat.reduceBEq, Nat.reduceSub, EE.down]
          refine condB (fun c11 => ?_) (fun c11 => ?_)
          · have h := (if_pos c11).symm.trans h
            simp only [VW.down, Nat.reduceEqDiff, reduceCtorEq, Nat.reduceAdd, Nat.reduceLeDiff, Nat.reduceLT, Nat.reduceBEq, Nat.reduceSub, EE.down]
            obtain ⟨fh0o2, hfh0o2, rfl⟩ := Option.map_eq_some_iff.1 h
            have h := hfh0o2.trans h0o2
            obtain rfl := Option.some.inj h
            exact eF []
          · have h := (if_neg c11).symm.trans h
            simp only [VW.down, Nat.reduceEqDiff, reduceCtorEq, Nat.reduceAdd, Nat.reduceLeDiff, Nat.reduceLT, Nat.reduceBEq, Nat.reduceSub, EE.down]
            rw [wrapN (by omega)]
            exact eL' (x0.length - (o2_0 + 1)) [] ⟨o2_0 + 1, ⟨by omega, rfl⟩, rfl, h⟩ (by omega)
      · rw [countN (show ¬ ((o2_0 : Int) < (x0.length : Int)) from c3), F13_l2] at h
        simp only [VW.down, Nat.reduceEqDiff, reduceCtorEq, Nat.reduceAdd, Nat.reduceLeDiff, Nat.reduceLT, Nat.reduceBEq, Nat.reduceSub, EE.down]
        obtain rfl := Option.some.inj h
        exact eM [] ⟨_, rfl, rfl⟩
    · rintro _ ⟨po2, rfl, rfl⟩
      clear ho
      dsimp only at h
      simp only [VW.down, Nat.reduceEqDiff, reduceCtorEq, Nat.reduceAdd, Nat.reduceLeDiff, Nat.reduceLT, Nat.reduceBEq, Nat.reduceSub, EE.down]
      obtain rfl := Option.some.inj h
      exact eF []

/- slices.Index[[]string,string] -/
def F71_l1 (x1 : ByteArray) : List ByteArray → Nat → Option ((Int) ⊕ (Unit))
  | [], o1_0 => some (Sum.inr (()))
  | xo1 :: xs, o1_0 => (if x1 = xo1 then (some ((o1_0 : Int))).map Sum.inl else F71_l1 x1 xs (o1_0 + 1))
def F71 (x0 : (List ByteArray)) (x1 : ByteArray) : Option (Int) := (((ck (0 ≤ x0.length ∧ x0.length ≤ 4294967290)).bind fun u4 => F71_l1 x1 x0 0 : Option ((Int) ⊕ (Unit))).bind fun o1 => match o1 with | Sum.inl f => some f | Sum.inr po1 => some ((-1)))
def a71 : AFn := ⟨19, [(.tmp 4)],
 (.seq (.reg [⟨(some 4), none, .mv (kI 0), [], (.new [])⟩])
 (.seq (.seq (.reg [⟨(some 6), none, .mv (.t 0), [], (.new [])⟩,
   ⟨(some 7), none, .len (.t 6), [], (.new [])⟩,
   ⟨(some 8), none, .mv (kI 0), [], (.new [])⟩])
 (.sem (.block 0 (.loop (.seq (.reg [⟨(some 9), none, .bin .lss (.t 8) (.t 7), [], (.new [])⟩])
 (.seq (.cond (.t 9)
 .skip
 (.exit 0))
 (.seq (.block 1 (.seq (.reg [⟨(some 10), none, .mv (.t 8), [], (.new [])⟩,
   ⟨(some 5), none, .mv (.t 10), [], (.new [])⟩])
 (.seq (.reg [⟨(some 11), none, .mv (.t 1), [], (.new [])⟩,
   ⟨(some 12), none, .mv (.t 0), [], (.new [])⟩,
   ⟨(some 13), none, .mv (.t 5), [], (.new [])⟩,
   ⟨(some 14), none, .indexA 1 (.t 12) (.t 13), [], (.new [])⟩,
   ⟨(some 15), none, .load none (.t 14), [], (.new [])⟩,
   ⟨(some 16), none, .bin .eql (.t 11) (.t 15), [], (.new [])⟩])
 (.cond (.t 16)
 (.seq (.reg [⟨(some 17), none, .mv (.t 5), [], (.new [])⟩,
   ⟨(some 4), none, .mv (.t 17), [], (.new [])⟩])
 .ret)
 .skip))))
 (.reg [⟨(some 18), none, .bin .add (.t 8) (kI 1), [], (.new [])⟩,
   ⟨(some 8), none, .mv (.t 18), [], (.new [])⟩]))))))))
 (.seq (.reg [⟨(some 4), none, .mv (kI (-1)), [], (.new [])⟩])
 .ret)))⟩
theorem a71_ok : afn Try.prog 71 = some a71.er := by kernel_rfl
theorem F71_ok {x0 : (List ByteArray)} {x1 : ByteArray} {r : Int} (h : F71 x0 x1 = some r) : CallD Try.prog 71 [.c (.d (.sl (x0.map eS))), .c (.d (.v (.string x1)))] [] (tupV [.c (.d (.v (.int .i64 r)))]) [] := by
  refine callS a71_ok (by simp [a71]) ?_
  rw [F71] at h
  simp only [a71, VW.down, Nat.reduceEqDiff, reduceCtorEq, Nat.reduceAdd, Nat.reduceLeDiff, Nat.reduceLT, Nat.reduceBEq, Nat.reduceSub, EE.down]
  obtain ⟨o1, ho, h⟩ := Option.bind_eq_some_iff.1 h
  refine cutS (fun s => ∃ po1, o1 = Sum.inr po1 ∧ s = ⟨[], []⟩) ?_ ?_
  · have h0o1 := h
    have h := ho
    clear ho
    obtain ⟨_, hk, h⟩ := Option.bind_eq_some_iff.1 h
    have hk := ck_some hk
    simp only [VW.down, Nat.reduceEqDiff, reduceCtorEq, Nat.reduceAdd, Nat.reduceLeDiff, Nat.reduceLT, Nat.reduceBEq, Nat.reduceSub, EE.down]
    refine bL (fun j s => ∃ (o1_0 : Nat), (o1_0 ≤ x0.length ∧ j = x0.length - o1_0) ∧ s = ⟨[(0, .one (.c (.d (.sl (x0.map eS))))), (1, .one (.c (.d (.v (.string x1))))), (7, .one (.c (.d (.v (.int .i64 ((x0.length : Int))))))), (8, .one (.c (.d (.v (.int .i64 ((o1_0 : Int)))))))], []⟩ ∧ F71_l1 x1 (x0.drop o1_0) o1_0 = some o1) (x0.length - 0) [] ⟨0, ⟨hk.1, rfl⟩, rfl, h⟩ ?_
    rintro _ _ ⟨o1_0, ⟨hi, rfl⟩, rfl, h⟩
    simp only [VW.down, Nat.reduceEqDiff, reduceCtorEq, Nat.reduceAdd, Nat.reduceLeDiff, Nat.reduceLT, Nat.reduceBEq, Nat.reduceSub, EE.down]
    refine condS (fun c2 => ?_) (fun c2 => ?_)
    · obtain ⟨xo1, hxo1, hd⟩ := countY (show (o1_0 : Int) < (x0.length : Int) from c2)
      rw [hd, F71_l1] at h
      simp only [VW.down, Nat.reduceEqDiff, reduceCtorEq, Nat.reduceAdd, Nat.reduceLeDiff, Nat.reduceLT, Nat.reduceBEq, Nat.reduceSub, EE.down]
      refine t_idxF (enc := eS) (xs := x0) rfl rfl hxo1 rfl ?_
      simp only [VW.down, Nat.reduceEqDiff, reduceCtorEq, Nat.reduceAdd, Nat.reduceLeDiff, Nat.reduceLT, Nat.reduceBEq, Nat.reduceSub, EE.down]
      refine condS (fun c3 => ?_) (fun c3 => ?_)
      · have h := (if_pos c3).symm.trans h
        simp only [VW.down, Nat.reduceEqDiff, reduceCtorEq, Nat.reduceAdd, Nat.reduceLeDiff, Nat.reduceLT, Nat.reduceBEq, Nat.reduceSub, EE.down]
        obtain ⟨fh0o1, hfh0o1, rfl⟩ := Option.map_eq_some_iff.1 h
        have h := hfh0o1.trans h0o1
        obtain rfl := Option.some.inj h
        exact eF []
      · have h := (if_neg c3).symm.trans h
        simp only [VW.down, Nat.reduceEqDiff, reduceCtorEq, Nat.reduceAdd, Nat.reduceLeDiff, Nat.reduceLT, Nat.reduceBEq, Nat.reduceSub, EE.down]
        rw [wrapN (by omega)]
        exact eL' (x0.length - (o1_0 + 1)) [] ⟨o1_0 + 1, ⟨by omega, rfl⟩, rfl, h⟩ (by omega)
    · rw [countN (show ¬ ((o1_0 : Int) < (x0.length : Int)) from c2), F71_l1] at h
      simp only [VW.down, Nat.reduceEqDiff, reduceCtorEq, Nat.reduceAdd, Nat.reduceLeDiff, Nat.reduceLT, Nat.reduceBEq, Nat.reduceSub, EE.down]
      obtain rfl := Option.some.inj h
      exact eM [] ⟨_, rfl, rfl⟩
  · rintro _ ⟨po1, rfl, rfl⟩
    clear ho
    dsimp only at h
    simp only [VW.down, Nat.reduceEqDiff, reduceCtorEq, Nat.reduceAdd, Nat.reduceLeDiff, Nat.reduceLT, Nat.reduceBEq, Nat.reduceSub, EE.down]
    obtain rfl := Option.some.inj h
    exact eF []

/- slices.Contains[[]string,string] -/
def F57 (x0 : (List ByteArray)) (x1 : ByteArray) : Option (Bool) := (F71 x0 x1).bind fun t1 => some (decide (0 ≤ t1))
def a57 : AFn := ⟨9, [(.tmp 4)],
 (.seq (.reg [⟨(some 4), none, .mv (kB false), [], (.new [])⟩])
 (.seq (.reg [⟨(some 5), none, .mv (.t 0), [], (.new [])⟩,
   ⟨(some 6), none, .mv (.t 1), [], (.new [])⟩,
   ⟨(some 7), none, .call 71 [(.t 5), (.t 6)], [], (.new [])⟩,
   ⟨(some 8), none, .bin .geq (.t 7) (kI 0), [], (.new [])⟩,
   ⟨(some 4), none, .mv (.t 8), [], (.new [])⟩])
 .ret))⟩
theorem a57_ok : afn Try.prog 57 = some a57.er := by kernel_rfl
theorem F57_ok {x0 : (List ByteArray)} {x1 : ByteArray} {r : Bool} (h : F57 x0 x1 = some r) : CallD Try.prog 57 [.c (.d (.sl (x0.map eS))), .c (.d (.v (.string x1)))] [] (tupV [.c (.d (.v (.bool r)))]) [] := by
  refine callS a57_ok (by simp [a57]) ?_
  rw [F57] at h
  simp only [a57, VW.down, Nat.reduceEqDiff, reduceCtorEq, Nat.reduceAdd, Nat.reduceLeDiff, Nat.reduceLT, Nat.reduceBEq, Nat.reduceSub, EE.down]
  obtain ⟨t1, ht1, h⟩ := Option.bind_eq_some_iff.1 h
  refine callX_n [] (F71_ok ht1) ?_ ?_ ?_ ?_ ?_ ?_
  · first | rfl | simp [nrmA, nrmC, nrm, A1.ren, C.ren, rn, List.length_set]
  · simp [liveAll, A1.live, C.live]
  · rfl
  · decide
  · exact trivial
  simp only [VW.down, Nat.reduceEqDiff, reduceCtorEq, Nat.reduceAdd, Nat.reduceLeDiff, Nat.reduceLT, Nat.reduceBEq, Nat.reduceSub, EE.down]
  obtain rfl := Option.some.inj h
  exact eF []

/- orchestrator/label.holds -/
def F38 (x0 : Requirement) (x1 : (List Label)) : Option (Bool) := (F17 x1 x0.Key).bind fun t1 => (if x0.Op = 1 then (((if t1.2 = true then (F57 x0.Values t1.1).bind fun t5 => some t5 else some false)).bind fun o3 => some o3) else (if x0.Op = 2 then (((if (nb t1.2) = true then some true else (F57 x0.Values t1.1).bind fun t9 => some (nb t9))).bind fun o7 => some o7) else (if x0.Op = 3 then some t1.2 else (if x0.Op = 4 then some (nb t1.2) else some false))))
def a38 : AFn := ⟨43, [(.tmp 4)],
 (.seq (.reg [⟨(some 2), none, .box (.t 0), [], (.new [])⟩,
   ⟨(some 4), none, .mv (kB false), [], (.new [])⟩])
 (.seq (.reg [⟨(some 8), none, .mv (.t 1), [], (.new [])⟩,
   ⟨(some 9), none, .fieldA 0 (.t 2), [], (.new [])⟩,
   ⟨(some 10), none, .load none (.t 9), [], (.new [])⟩,
   ⟨(some 11), none, .call 17 [(.t 8), (.t 10)], [], (.new [])⟩,
   ⟨(some 7), none, .mv (.t 11), [], (.new [])⟩,
   ⟨(some 12), none, .ext (.t 7) 0, [], (.new [])⟩,
   ⟨(some 13), none, .ext (.t 7) 1, [], (.new [])⟩,
   ⟨(some 5), none, .mv (.t 12), [], (.new [])⟩,
   ⟨(some 6), none, .mv (.t 13), [], (.new [])⟩])
 (.seq (.seq (.reg [⟨(some 14), none, .fieldA 1 (.t 2), [], (.new [])⟩,
   ⟨(some 15), none, .load none (.t 14), [], (.new [])⟩])
 (.block 0 (.seq (.reg [⟨(some 17), none, .bin .eql (.t 15) (kI 1), [], (.new [])⟩,
   ⟨(some 16), none, .mv (.t 17), [], (.new [])⟩])
 (.cond (.t 16)
 (.seq (.sem (.reg [⟨(some 18), none, .mv (.t 6), [], (.new [])⟩,
   ⟨(some 19), none, .mv (.t 18), [], (.new [])⟩,
   ⟨(some 20), (some (19, true)), .fieldA 2 (.t 2), [], (.new [])⟩,
   ⟨(some 21), (some (19, true)), .load none (.t 20), [], (.new [])⟩,
   ⟨(some 22), (some (19, true)), .mv (.t 5), [], (.new [])⟩,
   ⟨(some 23), (some (19, true)), .call 57 [(.t 21), (.t 22)], [], (.new [])⟩,
   ⟨(some 24), none, .pick (.t 19) (.t 23) (kB false), [], (.new [])⟩,
   ⟨(some 4), none, .mv (.t 24), [], (.new [])⟩]))
 .ret)
 (.seq (.reg [⟨(some 26), none, .bin .eql (.t 15) (kI 2), [], (.new [])⟩,
   ⟨(some 25), none, .mv (.t 26), [], (.new [])⟩])
 (.cond (.t 25)
 (.seq (.sem (.reg [⟨(some 27), none, .mv (.t 6), [], (.new [])⟩,
   ⟨(some 28), none, .not (.t 27), [], (.new [])⟩,
   ⟨(some 29), none, .mv (.t 28), [], (.new [])⟩,
   ⟨(some 30), (some (29, false)), .fieldA 2 (.t 2), [], (.new [])⟩,
   ⟨(some 31), (some (29, false)), .load none (.t 30), [], (.new [])⟩,
   ⟨(some 32), (some (29, false)), .mv (.t 5), [], (.new [])⟩,
   ⟨(some 33), (some (29, false)), .call 57 [(.t 31), (.t 32)], [], (.new [])⟩,
   ⟨(some 34), (some (29, false)), .not (.t 33), [], (.new [])⟩,
   ⟨(some 35), none, .pick (.t 29) (kB true) (.t 34), [], (.new [])⟩,
   ⟨(some 4), none, .mv (.t 35), [], (.new [])⟩]))
 .ret)
 (.seq (.reg [⟨(some 37), none, .bin .eql (.t 15) (kI 3), [], (.new [])⟩,
   ⟨(some 36), none, .mv (.t 37), [], (.new [])⟩])
 (.cond (.t 36)
 (.seq (.reg [⟨(some 38), none, .mv (.t 6), [], (.new [])⟩,
   ⟨(some 4), none, .mv (.t 38), [], (.new [])⟩])
 .ret)
 (.seq (.reg [⟨(some 40), none, .bin .eql (.t 15) (kI 4), [], (.new [])⟩,
   ⟨(some 39), none, .mv (.t 40), [], (.new [])⟩])
 (.cond (.t 39)
 (.seq (.reg [⟨(some 41), none, .mv (.t 6), [], (.new [])⟩,
   ⟨(some 42), none, .not (.t 41), [], (.new [])⟩,
   ⟨(some 4), none, .mv (.t 42), [], (.new [])⟩])
 .ret)
 .skip))))))))))
 (.seq (.reg [⟨(some 4), none, .mv (kB false), [], (.new [])⟩])
 .ret))))⟩
theorem a38_ok : afn Try.prog 38 = some a38.er := by kernel_rfl
theorem F38_ok {x0 : Requirement} {x1 : (List Label)} {r : Bool} (h : F38 x0 x1 = some r) : CallD Try.prog 38 [.agg [.d (.v (.string x0.Key)), .d (.v (.int .i64 x0.Op)), .d (.sl (x0.Values.map eS))], .c (.d (.sl (x1.map eLabel)))] [] (tupV [.c (.d (.v (.bool r)))]) [] := by
  refine callS a38_ok (by simp [a38]) ?_
  rw [F38] at h
  simp only [a38, VW.down, Nat.reduceEqDiff, reduceCtorEq, Nat.reduceAdd, Nat.reduceLeDiff, Nat.reduceLT, Nat.reduceBEq, Nat.reduceSub, EE.down]
  obtain ⟨t1, ht1, h⟩ := Option.bind_eq_some_iff.1 h
  refine callX_n [] (F17_ok ht1) ?_ ?_ ?_ ?_ ?_ ?_
  · first | rfl | simp [nrmA, nrmC, nrm, A1.ren, C.ren, rn, List.length_set]
  · simp [liveAll, A1.live, C.live]
  · rfl
  · decide
  · exact trivial
  simp only [VW.down, Nat.reduceEqDiff, reduceCtorEq, Nat.reduceAdd, Nat.reduceLeDiff, Nat.reduceLT, Nat.reduceBEq, Nat.reduceSub, EE.down]
  refine condS (fun c2 => ?_) (fun c2 => ?_)
  · have h := (if_pos c2).symm.trans h
    simp only [VW.down, Nat.reduceEqDiff, reduceCtorEq, Nat.reduceAdd, Nat.reduceLeDiff, Nat.reduceLT, Nat.reduceBEq, Nat.reduceSub, EE.down]
    obtain ⟨o3, ho, h⟩ := Option.bind_eq_some_iff.1 h
    refine cutS (fun s => s = ⟨[(4, .one (.c (.d (.v (.bool o3)))))], []⟩) ?_ ?_
    · have h := ho
      clear ho
      simp only [VW.down, Nat.reduceEqDiff, reduceCtorEq, Nat.reduceAdd, Nat.reduceLeDiff, Nat.reduceLT, Nat.reduceBEq, Nat.reduceSub, EE.down]
      refine guardSB (fun g4 => ?_) (fun g4 => ?_)
      · have h := (if_pos g4).symm.trans h
        simp only [VW.down, Nat.reduceEqDiff, reduceCtorEq, Nat.reduceAdd, Nat.reduceLeDiff, Nat.reduceLT, Nat.reduceBEq, Nat.reduceSub, EE.down]
        obtain ⟨t5, ht5, h⟩ := Option.bind_eq_some_iff.1 h
        refine callX_n [] (F57_ok ht5) ?_ ?_ ?_ ?_ ?_ ?_
        · first | rfl | simp [nrmA, nrmC, nrm, A1.ren, C.ren, rn, List.length_set]
        · simp [liveAll, A1.live, C.live]
        · rfl
        · decide
        · exact trivial
        simp only [VW.down, Nat.reduceEqDiff, reduceCtorEq, Nat.reduceAdd, Nat.reduceLeDiff, Nat.reduceLT, Nat.reduceBEq, Nat.reduceSub, EE.down]
        obtain rfl := Option.some.inj h
        exact eM [] rfl
      · have h := (if_neg g4).symm.trans h
        simp only [VW.down, Nat.reduceEqDiff, reduceCtorEq, Nat.reduceAdd, Nat.reduceLeDiff, Nat.reduceLT, Nat.reduceBEq, Nat.reduceSub, EE.down]
        obtain rfl := Option.some.inj h
        exact eM [] rfl
    · rintro _ rfl
      clear ho
      simp only [VW.down, Nat.reduceEqDiff, reduceCtorEq, Nat.reduceAdd, Nat.reduceLeDiff, Nat.reduceLT, Nat.reduceBEq, Nat.reduceSub, EE.down]
      obtain rfl := Option.some.inj h
      exact eF []
  · have h := (if_neg c2).symm.trans h
    simp only [VW.down, Nat.reduceEqDiff, reduceCtorEq, Nat.reduceAdd, Nat.reduceLeDiff, Nat.reduceLT, Nat.reduceBEq, Nat.reduceSub, EE.down]
    refine condS (fun c6 => ?_) (fun c6 => ?_)
    · have h := (if_pos c6).symm.trans h
      simp only [VW.down, Nat.reduceEqDiff, reduceCtorEq, Nat.reduceAdd, Nat.reduceLeDiff, Nat.reduceLT, Nat.reduceBEq, Nat.reduceSub, EE.down]
      obtain ⟨o7, ho, h⟩ := Option.bind_eq_some_iff.1 h
      refine cutS (fun s => s = ⟨[(4, .one (.c (.d (.v (.bool o7)))))], []⟩) ?_ ?_
      · have h := ho
        clear ho
        simp only [VW.down, Nat.reduceEqDiff, reduceCtorEq, Nat.reduceAdd, Nat.reduceLeDiff, Nat.reduceLT, Nat.reduceBEq, Nat.reduceSub, EE.down]
        refine guardSB (fun g8 => ?_) (fun g8 => ?_)
        · have h := (if_pos g8).symm.trans h
          simp only [VW.down, Nat.reduceEqDiff, reduceCtorEq, Nat.reduceAdd, Nat.reduceLeDiff, Nat.reduceLT, Nat.reduceBEq, Nat.reduceSub, EE.down]
          obtain rfl := Option.some.inj h
          exact eM [] rfl
        · have h := (if_neg g8).symm.trans h
          simp only [VW.down, Nat.reduceEqDiff, reduceCtorEq, Nat.reduceAdd, Nat.reduceLeDiff, Nat.reduceLT, Nat.reduceBEq, Nat.reduceSub, EE.down]
          obtain ⟨t9, ht9, h⟩ := Option.bind_eq_some_iff.1 h
          refine callX_n [] (F57_ok ht9) ?_ ?_ ?_ ?_ ?_ ?_
          · first | rfl | simp [nrmA, nrmC, nrm, A1.ren, C.ren, rn, List.length_set]
          · simp [liveAll, A1.live, C.live]
          · rfl
          · decide
          · exact trivial
          simp only [VW.down, Nat.reduceEqDiff, reduceCtorEq, Nat.reduceAdd, Nat.reduceLeDiff, Nat.reduceLT, Nat.reduceBEq, Nat.reduceSub, EE.down]
          obtain rfl := Option.some.inj h
          exact eM [] rfl
      · rintro _ rfl
        clear ho
        simp only [VW.down, Nat.reduceEqDiff, reduceCtorEq, Nat.reduceAdd, Nat.reduceLeDiff, Nat.reduceLT, Nat.reduceBEq, Nat.reduceSub, EE.down]
        obtain rfl := Option.some.inj h
        exact eF []
    · have h := (if_neg c6).symm.trans h
      simp only [VW.down, Nat.reduceEqDiff, reduceCtorEq, Nat.reduceAdd, Nat.reduceLeDiff, Nat.reduceLT, Nat.reduceBEq, Nat.reduceSub, EE.down]
      refine condS (fun c10 => ?_) (fun c10 => ?_)
      · have h := (if_pos c10).symm.trans h
        simp only [VW.down, Nat.reduceEqDiff, reduceCtorEq, Nat.reduceAdd, Nat.reduceLeDiff, Nat.reduceLT, Nat.reduceBEq, Nat.reduceSub, EE.down]
        obtain rfl := Option.some.inj h
        exact eF []
      · have h := (if_neg c10).symm.trans h
        simp only [VW.down, Nat.reduceEqDiff, reduceCtorEq, Nat.reduceAdd, Nat.reduceLeDiff, Nat.reduceLT, Nat.reduceBEq, Nat.reduceSub, EE.down]
        refine condS (fun c11 => ?_) (fun c11 => ?_)
        · have h := (if_pos c11).symm.trans h
          simp only [VW.down, Nat.reduceEqDiff, reduceCtorEq, Nat.reduceAdd, Nat.reduceLeDiff, Nat.reduceLT, Nat.reduceBEq, Nat.reduceSub, EE.down]
          obtain rfl := Option.some.inj h
          exact eF []
        · have h := (if_neg c11).symm.trans h
          simp only [VW.down, Nat.reduceEqDiff, reduceCtorEq, Nat.reduceAdd, Nat.reduceLeDiff, Nat.reduceLT, Nat.reduceBEq, Nat.reduceSub, EE.down]
          obtain rfl := Option.some.inj h
          exact eF []

/- orchestrator/label.Matches -/
def F22_l1 (x1 : (List Label)) : List Requirement → Nat → Option ((Bool) ⊕ (Unit))
  | [], o1_0 => some (Sum.inr (()))
  | xo1 :: xs, o1_0 => (F38 xo1 x1).bind fun t3 => (if (nb t3) = true then (some false).map Sum.inl else F22_l1 x1 xs (o1_0 + 1))
def F22 (x0 : (List Requirement)) (x1 : (List Label)) : Option (Bool) := (((ck (0 ≤ x0.length ∧ x0.length ≤ 4294967290)).bind fun u5 => F22_l1 x1 x0 0 : Option ((Bool) ⊕ (Unit))).bind fun o1 => match o1 with | Sum.inl f => some f | Sum.inr po1 => some true)
def a22 : AFn := ⟨18, [(.tmp 4)],
 (.seq (.reg [⟨(some 4), none, .mv (kB false), [], (.new [])⟩])
 (.seq (.seq (.reg [⟨(some 7), none, .mv (.t 0), [], (.new [])⟩,
   ⟨(some 8), none, .len (.t 7), [], (.new [])⟩,
   ⟨(some 9), none, .mv (kI 0), [], (.new [])⟩])
 (.sem (.block 0 (.loop (.seq (.reg [⟨(some 10), none, .bin .lss (.t 9) (.t 8), [], (.new [])⟩])
 (.seq (.cond (.t 10)
 .skip
 (.exit 0))
 (.seq (.block 1 (.seq (.reg [⟨(some 11), none, .indexA 3 (.t 7) (.t 9), [], (.new [])⟩,
   ⟨(some 12), none, .load (some 3) (.t 11), [], (.new [])⟩,
   ⟨(some 6), none, .zbox [.d (.v (.string ⟨#[]⟩)), .d (.v (.int .i64 0)), .d (.v (.slice none 0 0))], [], (.new [])⟩,
   ⟨none, none, .store 3 (.t 6) (.t 12), [], (.new [])⟩])
 (.seq (.reg [⟨(some 13), none, .load (some 3) (.t 6), [], (.new [])⟩,
   ⟨(some 14), none, .mv (.t 1), [], (.new [])⟩,
   ⟨(some 15), none, .call 38 [(.t 13), (.t 14)], [], (.new [])⟩,
   ⟨(some 16), none, .not (.t 15), [], (.new [])⟩])
 (.cond (.t 16)
 (.seq (.reg [⟨(some 4), none, .mv (kB false), [], (.new [])⟩])
 .ret)
 .skip))))
 (.reg [⟨(some 17), none, .bin .add (.t 9) (kI 1), [], (.new [])⟩,
   ⟨(some 9), none, .mv (.t 17), [], (.new [])⟩]))))))))
 (.seq (.reg [⟨(some 4), none, .mv (kB true), [], (.new [])⟩])
 .ret)))⟩
theorem a22_ok : afn Try.prog 22 = some a22.er := by kernel_rfl
theorem F22_ok {x0 : (List Requirement)} {x1 : (List Label)} {r : Bool} (h : F22 x0 x1 = some r) : CallD Try.prog 22 [.c (.d (.sl (x0.map eRequirement))), .c (.d (.sl (x1.map eLabel)))] [] (tupV [.c (.d (.v (.bool r)))]) [] := by
  refine callS a22_ok (by simp [a22]) ?_
  rw [F22] at h
  simp only [a22, VW.down, Nat.reduceEqDiff, reduceCtorEq, Nat.reduceAdd, Nat.reduceLeDiff, Nat.reduceLT, Nat.reduceBEq, Nat.reduceSub, EE.down]
  obtain ⟨o1, ho, h⟩ := Option.bind_eq_some_iff.1 h
  refine cutS (fun s => ∃ po1, o1 = Sum.inr po1 ∧ s = ⟨[], []⟩) ?_ ?_
  · have h0o1 := h
    have h := ho
    clear ho
    obtain ⟨_, hk, h⟩ := Option.bind_eq_some_iff.1 h
    have hk := ck_some hk
    simp only [VW.down, Nat.reduceEqDiff, reduceCtorEq, Nat.reduceAdd, Nat.reduceLeDiff, Nat.reduceLT, Nat.reduceBEq, Nat.reduceSub, EE.down]
    refine bL (fun j s => ∃ (o1_0 : Nat), (o1_0 ≤ x0.length ∧ j = x0.length - o1_0) ∧ s = ⟨[(1, .one (.c (.d (.sl (x1.map eLabel))))), (7, .one (.c (.d (.sl (x0.map eRequirement))))), (8, .one (.c (.d (.v (.int .i64 ((x0.length : Int))))))), (9, .one (.c (.d (.v (.int .i64 ((o1_0 : Int)))))))], []⟩ ∧ F22_l1 x1 (x0.drop o1_0) o1_0 = some o1) (x0.length - 0) [] ⟨0, ⟨hk.1, rfl⟩, rfl, h⟩ ?_
    rintro _ _ ⟨o1_0, ⟨hi, rfl⟩, rfl, h⟩
    simp only [VW.down, Nat.reduceEqDiff, reduceCtorEq, Nat.reduceAdd, Nat.reduceLeDiff, Nat.reduceLT, Nat.reduceBEq, Nat.reduceSub, EE.down]
    refine condS (fun c2 => ?_) (fun c2 => ?_)
    · obtain ⟨xo1, hxo1, hd⟩ := countY (show (o1_0 : Int) < (x0.length : Int) from c2)
      rw [hd, F22_l1] at h
      simp only [VW.down, Nat.reduceEqDiff, reduceCtorEq, Nat.reduceAdd, Nat.reduceLeDiff, Nat.reduceLT, Nat.reduceBEq, Nat.reduceSub, EE.down]
      refine t_idxF (enc := eRequirement) (xs := x0) rfl rfl hxo1 rfl ?_
      simp only [VW.down, Nat.reduceEqDiff, reduceCtorEq, Nat.reduceAdd, Nat.reduceLeDiff, Nat.reduceLT, Nat.reduceBEq, Nat.reduceSub, EE.down]
      obtain ⟨t3, ht3, h⟩ := Option.bind_eq_some_iff.1 h
      refine callX_n [] (F38_ok ht3) ?_ ?_ ?_ ?_ ?_ ?_
      · first | rfl | simp [nrmA, nrmC, nrm, A1.ren, C.ren, rn, List.length_set]
      · simp [liveAll, A1.live, C.live]
      · rfl
      · decide
      · exact trivial
      simp only [VW.down, Nat.reduceEqDiff, reduceCtorEq, Nat.reduceAdd, Nat.reduceLeDiff, Nat.reduceLT, Nat.reduceBEq, Nat.reduceSub, EE.down]
      refine condB (fun c4 => ?_) (fun c4 => ?_)
      · have h := (if_pos c4).symm.trans h
        simp only [VW.down, Nat.reduceEqDiff, reduceCtorEq, Nat.reduceAdd, Nat.reduceLeDiff, Nat.reduceLT, Nat.reduceBEq, Nat.reduceSub, EE.down]
        obtain ⟨fh0o1, hfh0o1, rfl⟩ := Option.map_eq_some_iff.1 h
        have h := hfh0o1.trans h0o1
        obtain rfl := Option.some.inj h
        exact eF []
      · have h := (if_neg c4).symm.trans h
        simp only [VW.down, Nat.reduceEqDiff, reduceCtorEq, Nat.reduceAdd, Nat.reduceLeDiff, Nat.reduceLT, Nat.reduceBEq, Nat.reduceSub, EE.down]
        rw [wrapN (by omega)]
        exact eL' (x0.length - (o1_0 + 1)) [] ⟨o1_0 + 1, ⟨by omega, rfl⟩, rfl, h⟩ (by omega)
    · rw [countN (show ¬ ((o1_0 : Int) < (x0.length : Int)) from c2), F22_l1] at h
      simp only [VW.down, Nat.reduceEqDiff, reduceCtorEq, Nat.reduceAdd, Nat.reduceLeDiff, Nat.reduceLT, Nat.reduceBEq, Nat.reduceSub, EE.down]
      obtain rfl := Option.some.inj h
      exact eM [] ⟨_, rfl, rfl⟩
  · rintro _ ⟨po1, rfl, rfl⟩
    clear ho
    dsimp only at h
    simp only [VW.down, Nat.reduceEqDiff, reduceCtorEq, Nat.reduceAdd, Nat.reduceLeDiff, Nat.reduceLT, Nat.reduceBEq, Nat.reduceSub, EE.down]
    obtain rfl := Option.some.inj h
    exact eF []

/- orchestrator/orchestratorlaw03.lives -/
def F12  : Option (Bool) := (F24 ((⟨#[101, 110, 118, 32, 105, 110, 32, 40, 98, 44, 97, 41, 44, 32, 33, 120]⟩ : ByteArray))).bind fun t1 => (F27 t1.1).bind fun t2 => (F20 ([(⟨(⟨#[97]⟩ : ByteArray), (⟨#[49]⟩ : ByteArray)⟩ : Label), (⟨(⟨#[99]⟩ : ByteArray), (⟨#[51]⟩ : ByteArray)⟩ : Label)]) ((⟨#[98]⟩ : ByteArray)) ((⟨#[50]⟩ : ByteArray))).bind fun t3 => (F17 t3 ((⟨#[98]⟩ : ByteArray))).bind fun t4 => (F24 ((⟨#[97, 44]⟩ : ByteArray))).bind fun t5 => (((if t1.2 = 0 then (if t2.2 = 0 then (if t2.1 = (⟨#[101, 110, 118, 32, 105, 110, 32, 40, 97, 44, 98, 41, 44, 32, 33, 120]⟩ : ByteArray) then (if t4.2 = true then (if t4.1 = (⟨#[50]⟩ : ByteArray) then (if (t3.length : Int) = 3 then (F13 t3).bind fun t13 => (if t13 = true then (if t5.2 = 2 then (F22 t1.1 ([(⟨(⟨#[101, 110, 118]⟩ : ByteArray), (⟨#[97]⟩ : ByteArray)⟩ : Label)])).bind fun t16 => some t16 else some false) else some false) else some false) else some false) else some false) else some false) else some false) else some false)).bind fun o6 => some o6)
def a12 : AFn := ⟨68, [(.tmp 0)],
 (.seq (.reg [⟨(some 0), none, .mv (kB false), [], (.new [])⟩])
 (.seq (.reg [⟨(some 11), none, .call 24 [(kS ⟨#[101, 110, 118, 32, 105, 110, 32, 40, 98, 44, 97, 41, 44, 32, 33, 120]⟩)], [], (.new [])⟩,
   ⟨(some 10), none, .mv (.t 11), [], (.new [])⟩,
   ⟨(some 12), none, .ext (.t 10) 0, [], (.new [])⟩,
   ⟨(some 13), none, .ext (.t 10) 1, [], (.new [])⟩,
   ⟨(some 1), none, .mv (.t 12), [], (.new [])⟩,
   ⟨(some 2), none, .mv (.t 13), [], (.new [])⟩])
 (.seq (.reg [⟨(some 15), none, .mv (.t 1), [], (.new [])⟩,
   ⟨(some 16), none, .call 27 [(.t 15)], [], (.new [])⟩,
   ⟨(some 14), none, .mv (.t 16), [], (.new [])⟩,
   ⟨(some 17), none, .ext (.t 14) 0, [], (.new [])⟩,
   ⟨(some 18), none, .ext (.t 14) 1, [], (.new [])⟩,
   ⟨(some 3), none, .mv (.t 17), [], (.new [])⟩,
   ⟨(some 4), none, .mv (.t 18), [], (.new [])⟩])
 (.seq (.reg [⟨(some 19), none, .build [.d (.v (.string ⟨#[]⟩)), .d (.v (.string ⟨#[]⟩))] [(0, 1, (kS ⟨#[97]⟩)), (1, 1, (kS ⟨#[49]⟩))], [], (.new [])⟩,
   ⟨(some 20), none, .build [.d (.v (.string ⟨#[]⟩)), .d (.v (.string ⟨#[]⟩))] [(0, 1, (kS ⟨#[99]⟩)), (1, 1, (kS ⟨#[51]⟩))], [], (.new [])⟩,
   ⟨(some 21), none, .bslice 2 [(.t 19), (.t 20)], [], (.new [])⟩,
   ⟨(some 22), none, .call 20 [(.t 21), (kS ⟨#[98]⟩), (kS ⟨#[50]⟩)], [], (.new [])⟩,
   ⟨(some 5), none, .mv (.t 22), [], (.new [])⟩])
 (.seq (.reg [⟨(some 24), none, .mv (.t 5), [], (.new [])⟩,
   ⟨(some 25), none, .call 17 [(.t 24), (kS ⟨#[98]⟩)], [], (.new [])⟩,
   ⟨(some 23), none, .mv (.t 25), [], (.new [])⟩,
   ⟨(some 26), none, .ext (.t 23) 0, [], (.new [])⟩,
   ⟨(some 27), none, .ext (.t 23) 1, [], (.new [])⟩,
   ⟨(some 6), none, .mv (.t 26), [], (.new [])⟩,
   ⟨(some 7), none, .mv (.t 27), [], (.new [])⟩])
 (.seq (.reg [⟨(some 29), none, .call 24 [(kS ⟨#[97, 44]⟩)], [], (.new [])⟩,
   ⟨(some 28), none, .mv (.t 29), [], (.new [])⟩,
   ⟨(some 30), none, .ext (.t 28) 0, [], (.new [])⟩,
   ⟨(some 31), none, .ext (.t 28) 1, [], (.new [])⟩,
   ⟨(some 8), none, .mv (.t 30), [], (.new [])⟩,
   ⟨(some 9), none, .mv (.t 31), [], (.new [])⟩])
 (.seq (.sem (.reg [⟨(some 32), none, .mv (.t 2), [], (.new [])⟩,
   ⟨(some 33), none, .bin .eql (.t 32) (kI 0), [], (.new [])⟩,
   ⟨(some 34), none, .mv (.t 33), [], (.new [])⟩,
   ⟨(some 35), (some (34, true)), .mv (.t 4), [], (.new [])⟩,
   ⟨(some 36), (some (34, true)), .bin .eql (.t 35) (kI 0), [], (.new [])⟩,
   ⟨(some 37), none, .pick (.t 34) (.t 36) (kB false), [], (.new [])⟩,
   ⟨(some 38), none, .mv (.t 37), [], (.new [])⟩,
   ⟨(some 39), (some (38, true)), .mv (.t 3), [], (.new [])⟩,
   ⟨(some 40), (some (38, true)), .bin .eql (.t 39) (kS ⟨#[101, 110, 118, 32, 105, 110, 32, 40, 97, 44, 98, 41, 44, 32, 33, 120]⟩), [], (.new [])⟩,
   ⟨(some 41), none, .pick (.t 38) (.t 40) (kB false), [], (.new [])⟩,
   ⟨(some 42), none, .mv (.t 41), [], (.new [])⟩,
   ⟨(some 43), (some (42, true)), .mv (.t 7), [], (.new [])⟩,
   ⟨(some 44), none, .pick (.t 42) (.t 43) (kB false), [], (.new [])⟩,
   ⟨(some 45), none, .mv (.t 44), [], (.new [])⟩,
   ⟨(some 46), (some (45, true)), .mv (.t 6), [], (.new [])⟩,
   ⟨(some 47), (some (45, true)), .bin .eql (.t 46) (kS ⟨#[50]⟩), [], (.new [])⟩,
   ⟨(some 48), none, .pick (.t 45) (.t 47) (kB false), [], (.new [])⟩,
   ⟨(some 49), none, .mv (.t 48), [], (.new [])⟩,
   ⟨(some 50), (some (49, true)), .mv (.t 5), [], (.new [])⟩,
   ⟨(some 51), (some (49, true)), .len (.t 50), [], (.new [])⟩,
   ⟨(some 52), (some (49, true)), .bin .eql (.t 51) (kI 3), [], (.new [])⟩,
   ⟨(some 53), none, .pick (.t 49) (.t 52) (kB false), [], (.new [])⟩,
   ⟨(some 54), none, .mv (.t 53), [], (.new [])⟩,
   ⟨(some 55), (some (54, true)), .mv (.t 5), [], (.new [])⟩,
   ⟨(some 56), (some (54, true)), .call 13 [(.t 55)], [], (.new [])⟩,
   ⟨(some 57), none, .pick (.t 54) (.t 56) (kB false), [], (.new [])⟩,
   ⟨(some 58), none, .mv (.t 57), [], (.new [])⟩,
   ⟨(some 59), (some (58, true)), .mv (.t 9), [], (.new [])⟩,
   ⟨(some 60), (some (58, true)), .bin .eql (.t 59) (kI 2), [], (.new [])⟩,
   ⟨(some 61), none, .pick (.t 58) (.t 60) (kB false), [], (.new [])⟩,
   ⟨(some 62), none, .mv (.t 61), [], (.new [])⟩,
   ⟨(some 63), (some (62, true)), .mv (.t 1), [], (.new [])⟩,
   ⟨(some 64), (some (62, true)), .build [.d (.v (.string ⟨#[]⟩)), .d (.v (.string ⟨#[]⟩))] [(0, 1, (kS ⟨#[101, 110, 118]⟩)), (1, 1, (kS ⟨#[97]⟩))], [], (.new [])⟩,
   ⟨(some 65), (some (62, true)), .bslice 2 [(.t 64)], [], (.new [])⟩,
   ⟨(some 66), (some (62, true)), .call 22 [(.t 63), (.t 65)], [], (.new [])⟩,
   ⟨(some 67), none, .pick (.t 62) (.t 66) (kB false), [], (.new [])⟩,
   ⟨(some 0), none, .mv (.t 67), [], (.new [])⟩]))
 .ret)))))))⟩
theorem a12_ok : afn Try.prog 12 = some a12.er := by kernel_rfl
theorem F12_ok {r : Bool} (h : F12 = some r) : CallD Try.prog 12 [] [] (tupV [.c (.d (.v (.bool r)))]) [] := by
  refine callS a12_ok (by simp [a12]) ?_
  rw [F12] at h
  simp only [a12, VW.down, Nat.reduceEqDiff, reduceCtorEq, Nat.reduceAdd, Nat.reduceLeDiff, Nat.reduceLT, Nat.reduceBEq, Nat.reduceSub, EE.down]
  obtain ⟨t1, ht1, h⟩ := Option.bind_eq_some_iff.1 h
  refine callX_n [] (F24_ok ht1) ?_ ?_ ?_ ?_ ?_ ?_
  · first | rfl | simp [nrmA, nrmC, nrm, A1.ren, C.ren, rn, List.length_set]
  · simp [liveAll, A1.live, C.live]
  · rfl
  · decide
  · exact trivial
  simp only [VW.down, Nat.reduceEqDiff, reduceCtorEq, Nat.reduceAdd, Nat.reduceLeDiff, Nat.reduceLT, Nat.reduceBEq, Nat.reduceSub, EE.down]
  obtain ⟨t2, ht2, h⟩ := Option.bind_eq_some_iff.1 h
  refine callX_bor (F27_ok ht2) (by simp only [borAs, bors, hp, List.getElem?_cons_zero, List.getElem?_cons_succ, Option.join_some, List.drop_zero, bor_full', true_and, Nat.zero_add, List.length_map, Nat.le_refl, nrm, List.length_cons, List.length_nil, Nat.reduceAdd, Nat.reduceLeDiff, List.take_succ_cons, List.take_zero, List.take_nil, List.map_cons, List.map_nil, List.length_set, EE.down]) rfl ?_
  simp only [VW.down, Nat.reduceEqDiff, reduceCtorEq, Nat.reduceAdd, Nat.reduceLeDiff, Nat.reduceLT, Nat.reduceBEq, Nat.reduceSub, EE.down]
  refine t_bslice (enc := eLabel) (ys := [(⟨(⟨#[97]⟩ : ByteArray), (⟨#[49]⟩ : ByteArray)⟩ : Label), (⟨(⟨#[99]⟩ : ByteArray), (⟨#[51]⟩ : ByteArray)⟩ : Label)]) rfl rfl (by simp [A1.cells]) (by first | rfl | (simp only [List.drop_zero, take_mapL]; rfl)) ?_
  simp only [VW.down, Nat.reduceEqDiff, reduceCtorEq, Nat.reduceAdd, Nat.reduceLeDiff, Nat.reduceLT, Nat.reduceBEq, Nat.reduceSub, EE.down]
  obtain ⟨t3, ht3, h⟩ := Option.bind_eq_some_iff.1 h
  refine callX_borF (F20_ok ht3) (by simp only [borAs, bors, hp, List.getElem?_cons_zero, List.getElem?_cons_succ, Option.join_some, List.drop_zero, bor_full', true_and, Nat.zero_add, List.length_map, Nat.le_refl, nrm, List.length_cons, List.length_nil, Nat.reduceAdd, Nat.reduceLeDiff, List.take_succ_cons, List.take_zero, List.take_nil, List.map_cons, List.map_nil, List.length_set, EE.down]) rfl ⟨flat_rows (enc := eLabel) (fun _ => rfl) _, trivial⟩ ?_
  simp only [VW.down, Nat.reduceEqDiff, reduceCtorEq, Nat.reduceAdd, Nat.reduceLeDiff, Nat.reduceLT, Nat.reduceBEq, Nat.reduceSub, EE.down]
  obtain ⟨t4, ht4, h⟩ := Option.bind_eq_some_iff.1 h
  refine callX_bor (F17_ok ht4) (by simp only [borAs, bors, hp, List.getElem?_cons_zero, List.getElem?_cons_succ, Option.join_some, List.drop_zero, bor_full', true_and, Nat.zero_add, List.length_map, Nat.le_refl, nrm, List.length_cons, List.length_nil, Nat.reduceAdd, Nat.reduceLeDiff, List.take_succ_cons, List.take_zero, List.take_nil, List.map_cons, List.map_nil, List.length_set, EE.down]) rfl ?_
  simp only [VW.down, Nat.reduceEqDiff, reduceCtorEq, Nat.reduceAdd, Nat.reduceLeDiff, Nat.reduceLT, Nat.reduceBEq, Nat.reduceSub, EE.down]
  obtain ⟨t5, ht5, h⟩ := Option.bind_eq_some_iff.1 h
  refine callX_n [] (F24_ok ht5) ?_ ?_ ?_ ?_ ?_ ?_
  · first | rfl | simp [nrmA, nrmC, nrm, A1.ren, C.ren, rn, List.length_set]
  · simp [liveAll, A1.live, C.live]
  · rfl
  · decide
  · exact trivial
  simp only [VW.down, Nat.reduceEqDiff, reduceCtorEq, Nat.reduceAdd, Nat.reduceLeDiff, Nat.reduceLT, Nat.reduceBEq, Nat.reduceSub, EE.down]
  obtain ⟨o6, ho, h⟩ := Option.bind_eq_some_iff.1 h
  refine cutS (fun s => s = ⟨[(0, .one (.c (.d (.v (.bool o6)))))], []⟩) ?_ ?_
  · have h := ho
    clear ho
    simp only [VW.down, Nat.reduceEqDiff, reduceCtorEq, Nat.reduceAdd, Nat.reduceLeDiff, Nat.reduceLT, Nat.reduceBEq, Nat.reduceSub, EE.down]
    refine guardS (fun g7 => ?_) (fun g7 => ?_)
    · have h := (if_pos g7).symm.trans h
      simp only [VW.down, Nat.reduceEqDiff, reduceCtorEq, Nat.reduceAdd, Nat.reduceLeDiff, Nat.reduceLT, Nat.reduceBEq, Nat.reduceSub, EE.down]
      refine guardS (fun g8 => ?_) (fun g8 => ?_)
      · have h := (if_pos g8).symm.trans h
        simp only [VW.down, Nat.reduceEqDiff, reduceCtorEq, Nat.reduceAdd, Nat.reduceLeDiff, Nat.reduceLT, Nat.reduceBEq, Nat.reduceSub, EE.down]
        refine guardS (fun g9 => ?_) (fun g9 => ?_)
        · have h := (if_pos g9).symm.trans h
          simp only [VW.down, Nat.reduceEqDiff, reduceCtorEq, Nat.reduceAdd, Nat.reduceLeDiff, Nat.reduceLT, Nat.reduceBEq, Nat.reduceSub, EE.down]
          refine guardSB (fun g10 => ?_) (fun g10 => ?_)
          · have h := (if_pos g10).symm.trans h
            simp only [VW.down, Nat.reduceEqDiff, reduceCtorEq, Nat.reduceAdd, Nat.reduceLeDiff, Nat.reduceLT, Nat.reduceBEq, Nat.reduceSub, EE.down]
            refine guardS (fun g11 => ?_) (fun g11 => ?_)
            · have h := (if_pos g11).symm.trans h
              simp only [VW.down, Nat.reduceEqDiff, reduceCtorEq, Nat.reduceAdd, Nat.reduceLeDiff, Nat.reduceLT, Nat.reduceBEq, Nat.reduceSub, EE.down]
              refine guardS (fun g12 => ?_) (fun g12 => ?_)
              · have h := (if_pos g12).symm.trans h
                simp only [VW.down, Nat.reduceEqDiff, reduceCtorEq, Nat.reduceAdd, Nat.reduceLeDiff, Nat.reduceLT, Nat.reduceBEq, Nat.reduceSub, EE.down]
                obtain ⟨t13, ht13, h⟩ := Option.bind_eq_some_iff.1 h
                refine callX_bor (F13_ok ht13) (by simp only [borAs, bors, hp, List.getElem?_cons_zero, List.getElem?_cons_succ, Option.join_some, List.drop_zero, bor_full', true_and, Nat.zero_add, List.length_map, Nat.le_refl, nrm, List.length_cons, List.length_nil, Nat.reduceAdd, Nat.reduceLeDiff, List.take_succ_cons, List.take_zero, List.take_nil, List.map_cons, List.map_nil, List.length_set, EE.down]) rfl ?_
                simp only [VW.down, Nat.reduceEqDiff, reduceCtorEq, Nat.reduceAdd, Nat.reduceLeDiff, Nat.reduceLT, Nat.reduceBEq, Nat.reduceSub, EE.down]
                refine guardSB (fun g14 => ?_) (fun g14 => ?_)
                · have h := (if_pos g14).symm.trans h
                  simp only [VW.down, Nat.reduceEqDiff, reduceCtorEq, Nat.reduceAdd, Nat.reduceLeDiff, Nat.reduceLT, Nat.reduceBEq, Nat.reduceSub, EE.down]
                  refine guardS (fun g15 => ?_) (fun g15 => ?_)
                  · have h := (if_pos g15).symm.trans h
                    simp only [VW.down, Nat.reduceEqDiff, reduceCtorEq, Nat.reduceAdd, Nat.reduceLeDiff, Nat.reduceLT, Nat.reduceBEq, Nat.reduceSub, EE.down]
                    refine t_bslice (enc := eLabel) (ys := [(⟨(⟨#[101, 110, 118]⟩ : ByteArray), (⟨#[97]⟩ : ByteArray)⟩ : Label)]) rfl rfl (by simp [A1.cells]) (by first | rfl | (simp only [List.drop_zero, take_mapL]; rfl)) ?_
                    simp only [VW.down, Nat.reduceEqDiff, reduceCtorEq, Nat.reduceAdd, Nat.reduceLeDiff, Nat.reduceLT, Nat.reduceBEq, Nat.reduceSub, EE.down]
                    obtain ⟨t16, ht16, h⟩ := Option.bind_eq_some_iff.1 h
                    refine callX_bor (F22_ok ht16) (by simp only [borAs, bors, hp, List.getElem?_cons_zero, List.getElem?_cons_succ, Option.join_some, List.drop_zero, bor_full', true_and, Nat.zero_add, List.length_map, Nat.le_refl, nrm, List.length_cons, List.length_nil, Nat.reduceAdd, Nat.reduceLeDiff, List.take_succ_cons, List.take_zero, List.take_nil, List.map_cons, List.map_nil, List.length_set, EE.down]) rfl ?_
                    simp only [VW.down, Nat.reduceEqDiff, reduceCtorEq, Nat.reduceAdd, Nat.reduceLeDiff, Nat.reduceLT, Nat.reduceBEq, Nat.reduceSub, EE.down]
                    obtain rfl := Option.some.inj h
                    exact eM [] rfl
                  · have h := (if_neg g15).symm.trans h
                    simp only [VW.down, Nat.reduceEqDiff, reduceCtorEq, Nat.reduceAdd, Nat.reduceLeDiff, Nat.reduceLT, Nat.reduceBEq, Nat.reduceSub, EE.down]
                    obtain rfl := Option.some.inj h
                    exact eM [] rfl
                · have h := (if_neg g14).symm.trans h
                  simp only [VW.down, Nat.reduceEqDiff, reduceCtorEq, Nat.reduceAdd, Nat.reduceLeDiff, Nat.reduceLT, Nat.reduceBEq, Nat.reduceSub, EE.down]
                  obtain rfl := Option.some.inj h
                  exact eM [] rfl
              · have h := (if_neg g12).symm.trans h
                simp only [VW.down, Nat.reduceEqDiff, reduceCtorEq, Nat.reduceAdd, Nat.reduceLeDiff, Nat.reduceLT, Nat.reduceBEq, Nat.reduceSub, EE.down]
                obtain rfl := Option.some.inj h
                exact eM [] rfl
            · have h := (if_neg g11).symm.trans h
              simp only [VW.down, Nat.reduceEqDiff, reduceCtorEq, Nat.reduceAdd, Nat.reduceLeDiff, Nat.reduceLT, Nat.reduceBEq, Nat.reduceSub, EE.down]
              obtain rfl := Option.some.inj h
              exact eM [] rfl
          · have h := (if_neg g10).symm.trans h
            simp only [VW.down, Nat.reduceEqDiff, reduceCtorEq, Nat.reduceAdd, Nat.reduceLeDiff, Nat.reduceLT, Nat.reduceBEq, Nat.reduceSub, EE.down]
            obtain rfl := Option.some.inj h
            exact eM [] rfl
        · have h := (if_neg g9).symm.trans h
          simp only [VW.down, Nat.reduceEqDiff, reduceCtorEq, Nat.reduceAdd, Nat.reduceLeDiff, Nat.reduceLT, Nat.reduceBEq, Nat.reduceSub, EE.down]
          obtain rfl := Option.some.inj h
          exact eM [] rfl
      · have h := (if_neg g8).symm.trans h
        simp only [VW.down, Nat.reduceEqDiff, reduceCtorEq, Nat.reduceAdd, Nat.reduceLeDiff, Nat.reduceLT, Nat.reduceBEq, Nat.reduceSub, EE.down]
        obtain rfl := Option.some.inj h
        exact eM [] rfl
    · have h := (if_neg g7).symm.trans h
      simp only [VW.down, Nat.reduceEqDiff, reduceCtorEq, Nat.reduceAdd, Nat.reduceLeDiff, Nat.reduceLT, Nat.reduceBEq, Nat.reduceSub, EE.down]
      obtain rfl := Option.some.inj h
      exact eM [] rfl
  · rintro _ rfl
    clear ho
    simp only [VW.down, Nat.reduceEqDiff, reduceCtorEq, Nat.reduceAdd, Nat.reduceLeDiff, Nat.reduceLT, Nat.reduceBEq, Nat.reduceSub, EE.down]
    obtain rfl := Option.some.inj h
    exact eF []
end Go.Proofs.Ytadhmlfnfgpjjaa
