/- Each Go function as a function over typed data, and its walk. -/
import Derived.Test.YtihhlgbcbmoblaaBX
namespace Go.Proofs.Ytihhlgbcbmoblaa
open Go Go.Fw Go.Shelf
set_option maxRecDepth 100000
set_option maxHeartbeats 4000000
set_option linter.unusedSimpArgs false
set_option linter.unusedVariables false
/- slices.IndexFunc[[]orchestrator/api.Taint,orchestrator/api.Taint] -/
def F52v2_l1  : List Taint → Nat → Option ((Int) ⊕ (Unit))
  | [], o1_0 => some (Sum.inr (()))
  | xo1 :: xs, o1_0 => (F60 xo1).bind fun t3 => (if t3 = true then (some ((o1_0 : Int))).map Sum.inl else F52v2_l1  xs (o1_0 + 1))
def F52v2 (x0 : (List Taint)) : Option (Int) := (((ck (0 ≤ x0.length ∧ x0.length ≤ 4294967290)).bind fun u5 => F52v2_l1 x0 0).bind fun o1 => match o1 with | Sum.inl f => some f | Sum.inr po1 => some ((-1)))
def a52v2 : AFn := ⟨19, [(.tmp 4)],
 (.seq (.reg [⟨(some 4), none, .mv (kI 0), [], (.new [])⟩])
 (.seq (.seq (.reg [⟨(some 6), none, .mv (.t 0), [], (.new [])⟩,
   ⟨(some 7), none, .len (.t 6), [], (.new [])⟩,
   ⟨(some 8), none, .mv (kI 0), [], (.new [])⟩])
 (.sem (.block 0 (.loop (.seq (.reg [⟨(some 9), none, .bin .lss (.t 8) (.t 7), [], (.new [])⟩])
 (.seq (.cond (.t 9)
 .skip
 (.exit 0))
 (.seq (.block 1 (.seq (.reg [⟨(some 10), none, .mv (.t 8), [], (.new [])⟩,
   ⟨(some 5), none, .mv (.t 10), [], (.new [])⟩])
 (.seq (.reg [⟨(some 11), none, .mv (.t 1), [], (.new [])⟩,
   ⟨(some 12), none, .mv (.t 0), [], (.new [])⟩,
   ⟨(some 13), none, .mv (.t 5), [], (.new [])⟩,
   ⟨(some 14), none, .indexA 4 (.t 12) (.t 13), [], (.new [])⟩,
   ⟨(some 15), none, .load (some 4) (.t 14), [], (.new [])⟩,
   ⟨(some 16), none, .callv (.t 11) [(.t 15)], [], (.lone [12, 14])⟩])
 (.cond (.t 16)
 (.seq (.reg [⟨(some 17), none, .mv (.t 5), [], (.new [])⟩,
   ⟨(some 4), none, .mv (.t 17), [], (.new [])⟩])
 .ret)
 .skip))))
 (.reg [⟨(some 18), none, .bin .add (.t 8) (kI 1), [], (.new [])⟩,
   ⟨(some 8), none, .mv (.t 18), [], (.new [])⟩]))))))))
 (.seq (.reg [⟨(some 4), none, .mv (kI (-1)), [], (.new [])⟩])
 .ret)))⟩
theorem a52v2_ok : afn Try.prog 52 = some a52v2.er := by kernel_rfl
theorem F52v2_ok {x0 : (List Taint)} {r : Int} (h : F52v2 x0 = some r) : CallD Try.prog 52 [.c (.d (.sl (x0.map eTaint))), .c (.fn 60 [])] [] (tupV [.c (.d (.v (.int .i64 r)))]) [] := by
  refine callS a52v2_ok (by simp [a52v2]) ?_
  rw [F52v2] at h
  simp only [a52v2, VW.down, Nat.reduceEqDiff, reduceCtorEq, Nat.reduceAdd, Nat.reduceLeDiff, Nat.reduceLT, Nat.reduceBEq, Nat.reduceSub, EE.down]
  obtain ⟨o1, ho, h⟩ := Option.bind_eq_some_iff.1 h
  refine cutS (fun s => ∃ po1, o1 = Sum.inr po1 ∧ s = ⟨[], []⟩) ?_ ?_
  · have h0o1 := h
    have h := ho
    clear ho
    obtain ⟨_, hk, h⟩ := Option.bind_eq_some_iff.1 h
    have hk := ck_some hk
    simp only [VW.down, Nat.reduceEqDiff, reduceCtorEq, Nat.reduceAdd, Nat.reduceLeDiff, Nat.reduceLT, Nat.reduceBEq, Nat.reduceSub, EE.down]
    refine bL (fun j s => ∃ (o1_0 : Nat), (o1_0 ≤ x0.length ∧ j = x0.length - o1_0) ∧ s = ⟨[(0, .one (.c (.d (.sl (x0.map eTaint))))), (1, .one (.c (.fn 60 []))), (7, .one (.c (.d (.v (.int .i64 ((x0.length : Int))))))), (8, .one (.c (.d (.v (.int .i64 ((o1_0 : Int)))))))], []⟩ ∧ F52v2_l1 (x0.drop o1_0) o1_0 = some o1) (x0.length - 0) [] ⟨0, ⟨hk.1, rfl⟩, rfl, h⟩ ?_
    rintro _ _ ⟨o1_0, ⟨hi, rfl⟩, rfl, h⟩
    simp only [VW.down, Nat.reduceEqDiff, reduceCtorEq, Nat.reduceAdd, Nat.reduceLeDiff, Nat.reduceLT, Nat.reduceBEq, Nat.reduceSub, EE.down]
    refine condS (fun c2 => ?_) (fun c2 => ?_)
    · obtain ⟨xo1, hxo1, hd⟩ := countY (show (o1_0 : Int) < (x0.length : Int) from c2)
      rw [hd, F52v2_l1] at h
      simp only [VW.down, Nat.reduceEqDiff, reduceCtorEq, Nat.reduceAdd, Nat.reduceLeDiff, Nat.reduceLT, Nat.reduceBEq, Nat.reduceSub, EE.down]
      refine t_idxF (enc := eTaint) (xs := x0) rfl rfl hxo1 rfl ?_
      simp only [VW.down, Nat.reduceEqDiff, reduceCtorEq, Nat.reduceAdd, Nat.reduceLeDiff, Nat.reduceLT, Nat.reduceBEq, Nat.reduceSub, EE.down]
      obtain ⟨t3, ht3, h⟩ := Option.bind_eq_some_iff.1 h
      refine callX_n [] (F60_ok ht3) ?_ ?_ ?_ ?_ ?_ ?_
      · first | rfl | simp [nrmA, nrmC, nrm, A1.ren, C.ren, rn, List.length_set]
      · simp [liveAll, A1.live, C.live]
      · rfl
      · decide
      · exact trivial
      simp only [VW.down, Nat.reduceEqDiff, reduceCtorEq, Nat.reduceAdd, Nat.reduceLeDiff, Nat.reduceLT, Nat.reduceBEq, Nat.reduceSub, EE.down]
      refine condB (fun c4 => ?_) (fun c4 => ?_)
      · have h := (if_pos c4).symm.trans h
        simp only [VW.down, Nat.reduceEqDiff, reduceCtorEq, Nat.reduceAdd, Nat.reduceLeDiff, Nat.reduceLT, Nat.reduceBEq, Nat.reduceSub, EE.down]
        obtain ⟨fh0o1, hfh0o1, rfl⟩ := Option.map_eq_some_iff.1 h
        have h := hfh0o1.trans h0o1
        obtain rfl := Option.some.inj h
        exact eF []
      · have h := (if_neg c4).symm.trans h
        simp only [VW.down, Nat.reduceEqDiff, reduceCtorEq, Nat.reduceAdd, Nat.reduceLeDiff, Nat.reduceLT, Nat.reduceBEq, Nat.reduceSub, EE.down]
        rw [wrapN (by omega)]
        exact eL' (x0.length - (o1_0 + 1)) [] ⟨o1_0 + 1, ⟨by omega, rfl⟩, rfl, h⟩ (by omega)
    · rw [countN (show ¬ ((o1_0 : Int) < (x0.length : Int)) from c2), F52v2_l1] at h
      simp only [VW.down, Nat.reduceEqDiff, reduceCtorEq, Nat.reduceAdd, Nat.reduceLeDiff, Nat.reduceLT, Nat.reduceBEq, Nat.reduceSub, EE.down]
      obtain rfl := Option.some.inj h
      exact eM [] ⟨_, rfl, rfl⟩
  · rintro _ ⟨po1, rfl, rfl⟩
    clear ho
    dsimp only at h
    simp only [VW.down, Nat.reduceEqDiff, reduceCtorEq, Nat.reduceAdd, Nat.reduceLeDiff, Nat.reduceLT, Nat.reduceBEq, Nat.reduceSub, EE.down]
    obtain rfl := Option.some.inj h
    exact eF []

/- slices.DeleteFunc[[]orchestrator/api.Taint,orchestrator/api.Taint] -/
def F25v1_l3  : Nat → (List Taint) → Int → Int → Option ((List Taint) × Int)
  | 0, _, _, _ => none
  | k + 1, o3_0, o3_1, o3_2 => (if o3_2 < (o3_0.length : Int) then (((rdI o3_0 o3_2).bind fun y6 => (F60 y6).bind fun t7 => (if (nb t7) = true then (rdI o3_0 o3_1).bind fun y9 => some (((o3_0.set o3_1.toNat y6), (IntKind.i64.wrap (o3_1 + 1)))) else some ((o3_0, o3_1)))).bind fun o5 => F25v1_l3  k o5.1 o5.2 ((IntKind.i64.wrap (o3_2 + 1)))) else some ((o3_0, o3_1)))
def F25v1 (x0 : (List Taint)) : Option ((List Taint)) := (F52v2 x0).bind fun t1 => (if t1 = (-1) then some x0 else ((F25v1_l3 1099511627776 x0 t1 ((IntKind.i64.wrap (t1 + 1)))).bind fun o3 => (slI o3.1 o3.2 ((o3.1.length : Int))).bind fun s10 => (slI ((clrL o3.1 o3.2.toNat s10.length ((⟨(⟨#[]⟩ : ByteArray), (⟨#[]⟩ : ByteArray), 0, 0⟩ : Taint)))) 0 o3.2).bind fun s11 => some s11))
def a25v1 : AFn := ⟨42, [(.tmp 4)],
 (.seq (.reg [⟨(some 4), none, .mv kN, [], (.new [])⟩])
 (.seq (.reg [⟨(some 8), none, .mv (.t 0), [], (.new [])⟩,
   ⟨(some 9), none, .mv (.t 1), [], (.new [])⟩,
   ⟨(some 10), none, .call 52 [(.t 8), (.t 9)], [], (.new [])⟩,
   ⟨(some 5), none, .mv (.t 10), [], (.new [])⟩])
 (.seq (.seq (.reg [⟨(some 11), none, .mv (.t 5), [], (.new [])⟩,
   ⟨(some 12), none, .bin .eql (.t 11) (kI (-1)), [], (.new [])⟩])
 (.cond (.t 12)
 (.seq (.reg [⟨(some 13), none, .mv (.t 0), [], (.new [])⟩,
   ⟨(some 4), none, .mv (.t 13), [], (.new [])⟩])
 .ret)
 .skip))
 (.seq (.seq (.reg [⟨(some 14), none, .mv (.t 5), [], (.new [])⟩,
   ⟨(some 15), none, .bin .add (.t 14) (kI 1), [], (.new [])⟩,
   ⟨(some 6), none, .mv (.t 15), [], (.new [])⟩])
 (.sem (.block 0 (.loop (.seq (.seq (.reg [⟨(some 16), none, .mv (.t 6), [], (.new [])⟩,
   ⟨(some 17), none, .mv (.t 0), [], (.new [])⟩,
   ⟨(some 18), none, .len (.t 17), [], (.new [])⟩,
   ⟨(some 19), none, .bin .lss (.t 16) (.t 18), [], (.new [])⟩])
 (.cond (.t 19)
 .skip
 (.exit 0)))
 (.seq (.sem (.block 1 (.seq (.reg [⟨(some 22), none, .mv (.t 0), [], (.new [])⟩,
   ⟨(some 23), none, .mv (.t 6), [], (.new [])⟩,
   ⟨(some 24), none, .indexA 4 (.t 22) (.t 23), [], (.new [])⟩,
   ⟨(some 25), none, .load (some 4) (.t 24), [], (.new [])⟩,
   ⟨(some 7), none, .zbox [.d (.v (.string ⟨#[]⟩)), .d (.v (.string ⟨#[]⟩)), .d (.v (.int .i64 0)), .d (.v (.int .i64 0))], [], (.new [])⟩,
   ⟨none, none, .store 4 (.t 7) (.t 25), [], (.new [])⟩])
 (.seq (.reg [⟨(some 26), none, .mv (.t 1), [], (.new [])⟩,
   ⟨(some 27), none, .load (some 4) (.t 7), [], (.new [])⟩,
   ⟨(some 28), none, .callv (.t 26) [(.t 27)], [], (.new [])⟩,
   ⟨(some 29), none, .not (.t 28), [], (.new [])⟩])
 (.cond (.t 29)
 (.seq (.reg [⟨(some 30), none, .mv (.t 0), [], (.new [])⟩,
   ⟨(some 31), none, .mv (.t 5), [], (.new [])⟩,
   ⟨(some 32), none, .load (some 4) (.t 7), [], (.new [])⟩,
   ⟨(some 33), none, .indexA 4 (.t 30) (.t 31), [], (.new [])⟩,
   ⟨none, none, .store 4 (.t 33) (.t 32), [], (.lone [7, 30])⟩])
 (.reg [⟨(some 34), none, .mv (.t 5), [], (.new [])⟩,
   ⟨(some 35), none, .bin .add (.t 34) (kI 1), [], (.new [])⟩,
   ⟨(some 5), none, .mv (.t 35), [], (.new [])⟩]))
 .skip)))))
 (.reg [⟨(some 20), none, .mv (.t 6), [], (.new [])⟩,
   ⟨(some 21), none, .bin .add (.t 20) (kI 1), [], (.new [])⟩,
   ⟨(some 6), none, .mv (.t 21), [], (.new [])⟩])))))))
 (.seq (.reg [⟨(some 36), none, .mv (.t 0), [], (.new [])⟩,
   ⟨(some 37), none, .mv (.t 5), [], (.new [])⟩,
   ⟨(some 38), none, .slice 4 (.t 36) (some (.t 37)) none none, [], (.new [])⟩,
   ⟨none, none, .clear 4 [.v (.string ⟨#[]⟩), .v (.string ⟨#[]⟩), .v (.int .i64 0), .v (.int .i64 0)] (.t 38), [], (.new [])⟩])
 (.seq (.reg [⟨(some 39), none, .mv (.t 0), [], (.new [])⟩,
   ⟨(some 40), none, .mv (.t 5), [], (.new [])⟩,
   ⟨(some 41), none, .slice 4 (.t 39) none (some (.t 40)) none, [], (.new [])⟩,
   ⟨(some 4), none, .mv (.t 41), [], (.new [])⟩])
 .ret))))))⟩
theorem a25v1_ok : afn Try.prog 25 = some a25v1.er := by kernel_rfl
theorem F25v1_ok {x0 : (List Taint)} {r : (List Taint)} {e0 : Nat} (h : F25v1 x0 = some r) : CallD Try.prog 25 [.c (.own 0 e0 0 (x0.length) none), .c (.fn 60 [])] [some (.arr e0 4 (x0.map eTaint))] (tupV [.c (.own 0 (e0 + 1) 0 (r.length) none)]) [some (.arr (e0 + 1) 4 (r.map eTaint))] := by
  refine callS a25v1_ok (by simp [a25v1]) ?_
  rw [F25v1] at h
  simp only [a25v1, VW.down, Nat.reduceEqDiff, reduceCtorEq, Nat.reduceAdd, Nat.reduceLeDiff, Nat.reduceLT, Nat.reduceBEq, Nat.reduceSub, EE.down]
  obtain ⟨t1, ht1, h⟩ := Option.bind_eq_some_iff.1 h
  refine callX_bor (F52v2_ok ht1) (by simp only [borAs, bors, hp, List.getElem?_cons_zero, List.getElem?_cons_succ, Option.join_some, List.drop_zero, bor_full', true_and, Nat.zero_add, List.length_map, Nat.le_refl, nrm, List.length_cons, List.length_nil, Nat.reduceAdd, Nat.reduceLeDiff, List.take_succ_cons, List.take_zero, List.take_nil, List.map_cons, List.map_nil, List.length_set, EE.down]) rfl ?_
  simp only [VW.down, Nat.reduceEqDiff, reduceCtorEq, Nat.reduceAdd, Nat.reduceLeDiff, Nat.reduceLT, Nat.reduceBEq, Nat.reduceSub, EE.down]
  refine condS (fun c2 => ?_) (fun c2 => ?_)
  · have h := (if_pos c2).symm.trans h
    simp only [VW.down, Nat.reduceEqDiff, reduceCtorEq, Nat.reduceAdd, Nat.reduceLeDiff, Nat.reduceLT, Nat.reduceBEq, Nat.reduceSub, EE.down]
    obtain rfl := Option.some.inj h
    exact eF [some 0]
  · have h := (if_neg c2).symm.trans h
    simp only [VW.down, Nat.reduceEqDiff, reduceCtorEq, Nat.reduceAdd, Nat.reduceLeDiff, Nat.reduceLT, Nat.reduceBEq, Nat.reduceSub, EE.down]
    obtain ⟨o3, ho, h⟩ := Option.bind_eq_some_iff.1 h
    refine cutS (fun s => s = ⟨[(0, .one (.c (.own 0 e0 0 (o3.1.length) none))), (5, .one (.c (.d (.v (.int .i64 o3.2)))))], [some (.arr e0 4 (o3.1.map eTaint))]⟩) ?_ ?_
    · have h := ho
      clear ho
      simp only [VW.down, Nat.reduceEqDiff, reduceCtorEq, Nat.reduceAdd, Nat.reduceLeDiff, Nat.reduceLT, Nat.reduceBEq, Nat.reduceSub, EE.down]
      refine bL (fun j s => ∃ (o3_0 : List Taint) (o3_1 : Int) (o3_2 : Int), s = ⟨[(0, .one (.c (.own 0 e0 0 (o3_0.length) none))), (1, .one (.c (.fn 60 []))), (5, .one (.c (.d (.v (.int .i64 o3_1))))), (6, .one (.c (.d (.v (.int .i64 o3_2)))))], [some (.arr e0 4 (o3_0.map eTaint))]⟩ ∧ F25v1_l3 j o3_0 o3_1 o3_2 = some o3) 1099511627776 [some 0] ⟨x0, t1, (IntKind.i64.wrap (t1 + 1)), rfl, h⟩ ?_
      rintro j _ ⟨o3_0, o3_1, o3_2, rfl, h⟩
      cases j with
      | zero => cases (show (none : Option _) = some _ from h)
      | succ j =>
        rw [F25v1_l3] at h
        simp only [VW.down, Nat.reduceEqDiff, reduceCtorEq, Nat.reduceAdd, Nat.reduceLeDiff, Nat.reduceLT, Nat.reduceBEq, Nat.reduceSub, EE.down]
        refine condS (fun c4 => ?_) (fun c4 => ?_)
        · have h := (if_pos c4).symm.trans h
          simp only [VW.down, Nat.reduceEqDiff, reduceCtorEq, Nat.reduceAdd, Nat.reduceLeDiff, Nat.reduceLT, Nat.reduceBEq, Nat.reduceSub, EE.down]
          obtain ⟨o5, ho, h⟩ := Option.bind_eq_some_iff.1 h
          refine cutS (fun s => s = ⟨[(0, .one (.c (.own 0 e0 0 (o5.1.length) none))), (1, .one (.c (.fn 60 []))), (5, .one (.c (.d (.v (.int .i64 o5.2))))), (6, .one (.c (.d (.v (.int .i64 o3_2)))))], [some (.arr e0 4 (o5.1.map eTaint))]⟩) ?_ ?_
          · have h := ho
            clear ho
            simp only [VW.down, Nat.reduceEqDiff, reduceCtorEq, Nat.reduceAdd, Nat.reduceLeDiff, Nat.reduceLT, Nat.reduceBEq, Nat.reduceSub, EE.down]
            obtain ⟨y6, hy6, h⟩ := Option.bind_eq_some_iff.1 h
            refine t_idxO (enc := eTaint) (xs := o3_0) rfl rfl rfl (by first | rfl | simp only [List.length_set] | exact (clrL_len (slI_len (by assumption))).symm) hy6 ?_
            simp only [VW.down, Nat.reduceEqDiff, reduceCtorEq, Nat.reduceAdd, Nat.reduceLeDiff, Nat.reduceLT, Nat.reduceBEq, Nat.reduceSub, EE.down]
            refine LdRow.rd (rdI_some hy6).2.1 ?_
            simp only [VW.down, Nat.reduceEqDiff, reduceCtorEq, Nat.reduceAdd, Nat.reduceLeDiff, Nat.reduceLT, Nat.reduceBEq, Nat.reduceSub, EE.down]
            obtain ⟨t7, ht7, h⟩ := Option.bind_eq_some_iff.1 h
            refine callX_n [] (F60_ok ht7) ?_ ?_ ?_ ?_ ?_ ?_
            · first | rfl | simp [nrmA, nrmC, nrm, A1.ren, C.ren, rn, List.length_set]
            · simp [liveAll, A1.live, C.live]
            · rfl
            · decide
            · exact trivial
            simp only [VW.down, Nat.reduceEqDiff, reduceCtorEq, Nat.reduceAdd, Nat.reduceLeDiff, Nat.reduceLT, Nat.reduceBEq, Nat.reduceSub, EE.down]
            refine condB (fun c8 => ?_) (fun c8 => ?_)
            · have h := (if_pos c8).symm.trans h
              simp only [VW.down, Nat.reduceEqDiff, reduceCtorEq, Nat.reduceAdd, Nat.reduceLeDiff, Nat.reduceLT, Nat.reduceBEq, Nat.reduceSub, EE.down]
              obtain ⟨y9, hy9, h⟩ := Option.bind_eq_some_iff.1 h
              refine t_idxO (enc := eTaint) (xs := o3_0) rfl rfl rfl (by first | rfl | simp only [List.length_set] | exact (clrL_len (slI_len (by assumption))).symm) hy9 ?_
              simp only [VW.down, Nat.reduceEqDiff, reduceCtorEq, Nat.reduceAdd, Nat.reduceLeDiff, Nat.reduceLT, Nat.reduceBEq, Nat.reduceSub, EE.down]
              refine StRow.rd (y' := y6) (rdI_some hy9).2.1 (by simp [EE.down]) (by first | rfl | (simp only [bor_full']; rfl)) ?_
              simp only [VW.down, Nat.reduceEqDiff, reduceCtorEq, Nat.reduceAdd, Nat.reduceLeDiff, Nat.reduceLT, Nat.reduceBEq, Nat.reduceSub, EE.down]
              obtain rfl := Option.some.inj h
              exact eM [some 0] rfl
            · have h := (if_neg c8).symm.trans h
              simp only [VW.down, Nat.reduceEqDiff, reduceCtorEq, Nat.reduceAdd, Nat.reduceLeDiff, Nat.reduceLT, Nat.reduceBEq, Nat.reduceSub, EE.down]
              obtain rfl := Option.some.inj h
              exact eM [some 0] rfl
          · rintro _ rfl
            clear ho
            simp only [VW.down, Nat.reduceEqDiff, reduceCtorEq, Nat.reduceAdd, Nat.reduceLeDiff, Nat.reduceLT, Nat.reduceBEq, Nat.reduceSub, EE.down]
            exact eL' j [some 0] ⟨o5.1, o5.2, (IntKind.i64.wrap (o3_2 + 1)), rfl, h⟩ (Nat.lt_succ_self _)
        · have h := (if_neg c4).symm.trans h
          simp only [VW.down, Nat.reduceEqDiff, reduceCtorEq, Nat.reduceAdd, Nat.reduceLeDiff, Nat.reduceLT, Nat.reduceBEq, Nat.reduceSub, EE.down]
          obtain rfl := Option.some.inj h
          exact eM [some 0] rfl
    · rintro _ rfl
      clear ho
      simp only [VW.down, Nat.reduceEqDiff, reduceCtorEq, Nat.reduceAdd, Nat.reduceLeDiff, Nat.reduceLT, Nat.reduceBEq, Nat.reduceSub, EE.down]
      obtain ⟨s10, hs10, h⟩ := Option.bind_eq_some_iff.1 h
      refine t_sliceO (enc := eTaint) (xs := o3.1) rfl rfl (by first | rfl | simp only [List.length_set] | exact (clrL_len (slI_len (by assumption))).symm) rfl (by first | rfl | simp only [intV, List.length_set]) hs10 ?_
      simp only [VW.down, Nat.reduceEqDiff, reduceCtorEq, Nat.reduceAdd, Nat.reduceLeDiff, Nat.reduceLT, Nat.reduceBEq, Nat.reduceSub, EE.down]
      refine t_clear (enc := eTaint) (xs := o3.1) (z := (⟨(⟨#[]⟩ : ByteArray), (⟨#[]⟩ : ByteArray), 0, 0⟩ : Taint)) rfl rfl rfl (Nat.le_trans (Nat.le_add_right _ _) (slI_len hs10)) ?_
      simp only [VW.down, Nat.reduceEqDiff, reduceCtorEq, Nat.reduceAdd, Nat.reduceLeDiff, Nat.reduceLT, Nat.reduceBEq, Nat.reduceSub, EE.down]
      obtain ⟨s11, hs11, h⟩ := Option.bind_eq_some_iff.1 h
      refine t_sliceO (enc := eTaint) (xs := ((clrL o3.1 o3.2.toNat s10.length ((⟨(⟨#[]⟩ : ByteArray), (⟨#[]⟩ : ByteArray), 0, 0⟩ : Taint))))) rfl rfl (by first | rfl | simp only [List.length_set] | exact (clrL_len (slI_len (by assumption))).symm) rfl (by first | rfl | simp only [intV, List.length_set]) hs11 ?_
      simp only [VW.down, Nat.reduceEqDiff, reduceCtorEq, Nat.reduceAdd, Nat.reduceLeDiff, Nat.reduceLT, Nat.reduceBEq, Nat.reduceSub, EE.down]
      obtain rfl := Option.some.inj h
      exact eF [some 0] (hB := by simp only [ZZ.down, Nat.reduceEqDiff, reduceCtorEq, Nat.reduceAdd, Nat.reduceLeDiff, Nat.reduceLT, Nat.reduceBNe, EE.down, slI_pre hs11, slI_frz0 hs11, slI_le0 hs11]) (hs := by simp only [ZZ.down, Nat.reduceEqDiff, reduceCtorEq, Nat.reduceAdd, Nat.reduceLeDiff, Nat.reduceLT, Nat.reduceBNe, EE.down, slI_pre hs11, slI_frz0 hs11, slI_le0 hs11])

/- orchestrator/nodelife.leaves -/
def F36 (x0 : (List Node)) (x1 : Pod) (x2 : Int) : Option (Bool) := (F43 x0 x1).bind fun t1 => (((if (nb t1.2) = true then some true else some x1.Meta.Deleting)).bind fun o2 => (if o2 = true then some false else (cloneI ((t1.1).Taints)).bind fun t5 => (((F59 x1.Meta).bind fun t7 => (((if t7.2 = true then some (decide ((t7.1).Kind = (⟨#[68, 97, 101, 109, 111, 110, 83, 101, 116]⟩ : ByteArray))) else some false)).bind fun o8 => (if o8 = true then (F25v1 t5).bind fun t11 => some t11 else some t5))).bind fun o6 => (F61 o6 x1.Spec.Tolerations).bind fun t12 => (((if t12.2 = true then (F23 x2).bind fun t15 => some (decide (t12.1 ≤ (if 1000000000000 < (if x2 < 0 then 0 else x2) then 1000000000000 else (if x2 < 0 then 0 else x2)))) else some false)).bind fun o13 => some o13))))
def a36 : AFn := ⟨58, [(.tmp 6)],
 (.seq (.reg [⟨(some 4), none, .box (.t 1), [], (.new [])⟩,
   ⟨(some 6), none, .mv (kB false), [], (.new [])⟩])
 (.seq (.reg [⟨(some 14), none, .mv (.t 0), [], (.new [])⟩,
   ⟨(some 15), none, .load (some 32) (.t 4), [], (.new [])⟩,
   ⟨(some 16), none, .call 43 [(.t 14), (.t 15)], [], (.new [])⟩,
   ⟨(some 13), none, .mv (.t 16), [], (.new [])⟩,
   ⟨(some 17), none, .ext (.t 13) 0, [], (.new [])⟩,
   ⟨(some 18), none, .ext (.t 13) 1, [], (.new [])⟩,
   ⟨(some 7), none, .zbox [.d (.v (.string ⟨#[]⟩)), .d (.v (.string ⟨#[]⟩)), .d (.v (.string ⟨#[]⟩)), .d (.v (.int .i64 0)), .d (.v (.int .i64 0)), .d (.v (.int .i64 0)), .d (.v (.int .i64 0)), .d (.v (.bool false)), .d (.v (.int .i64 0)), .d (.v (.slice none 0 0)), .d (.v (.slice none 0 0)), .d (.v (.slice none 0 0)), .d (.v (.slice none 0 0)), .d (.v (.int .i64 0)), .d (.v (.int .i64 0)), .d (.v (.int .i64 0)), .d (.v (.int .i64 0)), .d (.v (.bool false)), .d (.v (.slice none 0 0)), .d (.v (.bool false)), .d (.v (.int .i64 0)), .d (.v (.bool false)), .d (.v (.bool false)), .d (.v (.slice none 0 0))], [], (.new [])⟩,
   ⟨none, none, .store 24 (.t 7) (.t 17), [], (.new [])⟩,
   ⟨(some 8), none, .mv (.t 18), [], (.new [])⟩])
 (.seq (.seq (.sem (.reg [⟨(some 19), none, .mv (.t 8), [], (.new [])⟩,
   ⟨(some 20), none, .not (.t 19), [], (.new [])⟩,
   ⟨(some 21), none, .mv (.t 20), [], (.new [])⟩,
   ⟨(some 22), (some (21, false)), .fieldA 0 (.t 4), [], (.new [])⟩,
   ⟨(some 23), (some (21, false)), .fieldA 7 (.t 22), [], (.new [])⟩,
   ⟨(some 24), (some (21, false)), .load none (.t 23), [], (.new [])⟩,
   ⟨(some 25), none, .pick (.t 21) (kB true) (.t 24), [], (.lone [4, 22, 23])⟩]))
 (.cond (.t 25)
 (.seq (.reg [⟨(some 6), none, .mv (kB false), [], (.new [])⟩])
 .ret)
 .skip))
 (.seq (.reg [⟨(some 26), none, .fieldA 18 (.t 7), [], (.new [])⟩,
   ⟨(some 27), none, .load none (.t 26), [], (.new [])⟩,
   ⟨(some 28), none, .call 50 [(.t 27)], [], (.new [])⟩,
   ⟨(some 9), none, .mv (.t 28), [], (.new [])⟩])
 (.seq (.sem (.seq (.reg [⟨(some 30), none, .fieldA 0 (.t 4), [], (.new [])⟩,
   ⟨(some 31), none, .load (some 13) (.t 30), [], (.new [])⟩,
   ⟨(some 32), none, .call 59 [(.t 31)], [], (.new [])⟩,
   ⟨(some 29), none, .mv (.t 32), [], (.new [])⟩,
   ⟨(some 33), none, .ext (.t 29) 0, [], (.new [])⟩,
   ⟨(some 34), none, .ext (.t 29) 1, [], (.new [])⟩,
   ⟨(some 10), none, .zbox [.d (.v (.string ⟨#[]⟩)), .d (.v (.string ⟨#[]⟩)), .d (.v (.int .i64 0)), .d (.v (.bool false)), .d (.v (.bool false))], [], (.new [])⟩,
   ⟨none, none, .store 5 (.t 10) (.t 33), [], (.new [])⟩,
   ⟨(some 11), none, .mv (.t 34), [], (.new [])⟩])
 (.seq (.sem (.reg [⟨(some 35), none, .mv (.t 11), [], (.new [])⟩,
   ⟨(some 36), none, .mv (.t 35), [], (.new [])⟩,
   ⟨(some 37), (some (36, true)), .fieldA 0 (.t 10), [], (.new [])⟩,
   ⟨(some 38), (some (36, true)), .load none (.t 37), [], (.new [])⟩,
   ⟨(some 39), (some (36, true)), .bin .eql (.t 38) (kS ⟨#[68, 97, 101, 109, 111, 110, 83, 101, 116]⟩), [], (.new [])⟩,
   ⟨(some 40), none, .pick (.t 36) (.t 39) (kB false), [], (.lone [10, 37])⟩]))
 (.cond (.t 40)
 (.reg [⟨(some 41), none, .mv (.t 9), [], (.new [])⟩,
   ⟨(some 42), none, .call 25 [(.t 41), (.f 60)], [], (.new [])⟩,
   ⟨(some 9), none, .mv (.t 42), [], (.new [])⟩])
 .skip))))
 (.seq (.reg [⟨(some 44), none, .mv (.t 9), [], (.new [])⟩,
   ⟨(some 45), none, .fieldA 13 (.t 4), [], (.new [])⟩,
   ⟨(some 46), none, .fieldA 9 (.t 45), [], (.new [])⟩,
   ⟨(some 47), none, .load none (.t 46), [], (.new [])⟩,
   ⟨(some 48), none, .call 61 [(.t 44), (.t 47)], [], (.new [])⟩,
   ⟨(some 43), none, .mv (.t 48), [], (.new [])⟩,
   ⟨(some 49), none, .ext (.t 43) 0, [], (.new [])⟩,
   ⟨(some 50), none, .ext (.t 43) 1, [], (.new [])⟩,
   ⟨(some 12), none, .mv (.t 49), [], (.new [])⟩,
   ⟨(some 8), none, .mv (.t 50), [], (.new [])⟩])
 (.seq (.sem (.reg [⟨(some 51), none, .mv (.t 8), [], (.new [])⟩,
   ⟨(some 52), none, .mv (.t 51), [], (.new [])⟩,
   ⟨(some 53), (some (52, true)), .mv (.t 12), [], (.new [])⟩,
   ⟨(some 54), (some (52, true)), .mv (.t 2), [], (.new [])⟩,
   ⟨(some 55), (some (52, true)), .call 23 [(.t 54)], [], (.new [])⟩,
   ⟨(some 56), (some (52, true)), .bin .leq (.t 53) (.t 55), [], (.new [])⟩,
   ⟨(some 57), none, .pick (.t 52) (.t 56) (kB false), [], (.new [])⟩,
   ⟨(some 6), none, .mv (.t 57), [], (.new [])⟩]))
 .ret)))))))⟩
theorem a36_ok : afn Try.prog 36 = some a36.er := by kernel_rfl
theorem F36_ok {x0 : (List Node)} {x1 : Pod} {x2 : Int} {r : Bool} (h : F36 x0 x1 x2 = some r) : CallD Try.prog 36 [.c (.d (.sl (x0.map eNode))), .agg [.d (.v (.string x1.Meta.Kind)), .d (.v (.string x1.Meta.Namespace)), .d (.v (.string x1.Meta.Name)), .d (.v (.int .i64 x1.Meta.Uid)), .d (.v (.int .i64 x1.Meta.Version)), .d (.v (.int .i64 x1.Meta.Generation)), .d (.v (.int .i64 x1.Meta.Created)), .d (.v (.bool x1.Meta.Deleting)), .d (.v (.int .i64 x1.Meta.DeleteAt)), .d (.sl (x1.Meta.Labels.map eLabel)), .d (.sl (x1.Meta.Owners.map eOwner)), .d (.sl (x1.Meta.Finalizers.map eS)), .d (.sl (x1.Meta.Managers.map eManager)), .d (.v (.string x1.Spec.Node)), .d (.v (.int .i64 x1.Spec.Priority)), .d (.v (.int .i64 x1.Spec.Restart)), .d (.v (.int .i64 x1.Spec.Grace)), .d (.sl (x1.Spec.Containers.map eContainer)), .d (.sl (x1.Spec.NodeSelector.map eRequirement)), .d (.sl (x1.Spec.NodeTerms.map eNodeTerm)), .d (.sl (x1.Spec.PodTerms.map ePodTerm)), .d (.sl (x1.Spec.Spread.map eSpreadRule)), .d (.sl (x1.Spec.Tolerations.map eToleration)), .d (.v (.int .i64 x1.Status.Phase)), .d (.v (.bool x1.Status.Ready)), .d (.v (.int .i64 x1.Status.ReadySince)), .d (.v (.int .i64 x1.Status.Started)), .d (.v (.int .i64 x1.Status.Finished)), .d (.sl (x1.Status.Containers.map eContainerStatus)), .d (.v (.int .i64 x1.Status.Address)), .d (.v (.string x1.Status.Nominated)), .d (.v (.string x1.Status.Reason))], .c (.d (.v (.int .i64 x2)))] [] (tupV [.c (.d (.v (.bool r)))]) [] := by
  refine callS a36_ok (by simp [a36]) ?_
  rw [F36] at h
  simp only [a36, VW.down, Nat.reduceEqDiff, reduceCtorEq, Nat.reduceAdd, Nat.reduceLeDiff, Nat.reduceLT, Nat.reduceBEq, Nat.reduceSub, EE.down]
  obtain ⟨t1, ht1, h⟩ := Option.bind_eq_some_iff.1 h
  refine callX_n [] (F43_ok ht1) ?_ ?_ ?_ ?_ ?_ ?_
  · first | rfl | simp [nrmA, nrmC, nrm, A1.ren, C.ren, rn, List.length_set]
  · simp [liveAll, A1.live, C.live]
  · rfl
  · decide
  · exact trivial
  simp only [VW.down, Nat.reduceEqDiff, reduceCtorEq, Nat.reduceAdd, Nat.reduceLeDiff, Nat.reduceLT, Nat.reduceBEq, Nat.reduceSub, EE.down]
  obtain ⟨o2, ho, h⟩ := Option.bind_eq_some_iff.1 h
  refine cutS (fun s => s = ⟨[(2, .one (.c (.d (.v (.int .i64 x2))))), (4, .one (.c (.pt 0 0))), (7, .one (.c (.pt 1 0))), (25, .one (.c (.d (.v (.bool o2)))))], [some (.box [.d (.v (.string x1.Meta.Kind)), .d (.v (.string x1.Meta.Namespace)), .d (.v (.string x1.Meta.Name)), .d (.v (.int .i64 x1.Meta.Uid)), .d (.v (.int .i64 x1.Meta.Version)), .d (.v (.int .i64 x1.Meta.Generation)), .d (.v (.int .i64 x1.Meta.Created)), .d (.v (.bool x1.Meta.Deleting)), .d (.v (.int .i64 x1.Meta.DeleteAt)), .d (.sl (x1.Meta.Labels.map eLabel)), .d (.sl (x1.Meta.Owners.map eOwner)), .d (.sl (x1.Meta.Finalizers.map eS)), .d (.sl (x1.Meta.Managers.map eManager)), .d (.v (.string x1.Spec.Node)), .d (.v (.int .i64 x1.Spec.Priority)), .d (.v (.int .i64 x1.Spec.Restart)), .d (.v (.int .i64 x1.Spec.Grace)), .d (.sl (x1.Spec.Containers.map eContainer)), .d (.sl (x1.Spec.NodeSelector.map eRequirement)), .d (.sl (x1.Spec.NodeTerms.map eNodeTerm)), .d (.sl (x1.Spec.PodTerms.map ePodTerm)), .d (.sl (x1.Spec.Spread.map eSpreadRule)), .d (.sl (x1.Spec.Tolerations.map eToleration)), .d (.v (.int .i64 x1.Status.Phase)), .d (.v (.bool x1.Status.Ready)), .d (.v (.int .i64 x1.Status.ReadySince)), .d (.v (.int .i64 x1.Status.Started)), .d (.v (.int .i64 x1.Status.Finished)), .d (.sl (x1.Status.Containers.map eContainerStatus)), .d (.v (.int .i64 x1.Status.Address)), .d (.v (.string x1.Status.Nominated)), .d (.v (.string x1.Status.Reason))]), some (.box [.d (.v (.string ((t1.1).Meta.Kind))), .d (.v (.string ((t1.1).Meta.Namespace))), .d (.v (.string ((t1.1).Meta.Name))), .d (.v (.int .i64 ((t1.1).Meta.Uid))), .d (.v (.int .i64 ((t1.1).Meta.Version))), .d (.v (.int .i64 ((t1.1).Meta.Generation))), .d (.v (.int .i64 ((t1.1).Meta.Created))), .d (.v (.bool ((t1.1).Meta.Deleting))), .d (.v (.int .i64 ((t1.1).Meta.DeleteAt))), .d (.sl (((t1.1).Meta.Labels).map eLabel)), .d (.sl (((t1.1).Meta.Owners).map eOwner)), .d (.sl (((t1.1).Meta.Finalizers).map eS)), .d (.sl (((t1.1).Meta.Managers).map eManager)), .d (.v (.int .i64 ((t1.1).Capacity.CPU))), .d (.v (.int .i64 ((t1.1).Capacity.Memory))), .d (.v (.int .i64 ((t1.1).Capacity.Disk))), .d (.v (.int .i64 ((t1.1).MaxPods))), .d (.v (.bool ((t1.1).Cordoned))), .d (.sl (((t1.1).Taints).map eTaint)), .d (.v (.bool ((t1.1).Ready))), .d (.v (.int .i64 ((t1.1).Beat))), .d (.v (.bool ((t1.1).LowMem))), .d (.v (.bool ((t1.1).LowDisk))), .d (.sl (((t1.1).Images).map eImage))])]⟩) ?_ ?_
  · have h := ho
    clear ho
    simp only [VW.down, Nat.reduceEqDiff, reduceCtorEq, Nat.reduceAdd, Nat.reduceLeDiff, Nat.reduceLT, Nat.reduceBEq, Nat.reduceSub, EE.down]
    refine guardSB (fun g3 => ?_) (fun g3 => ?_)
    · have h := (if_pos g3).symm.trans h
      simp only [VW.down, Nat.reduceEqDiff, reduceCtorEq, Nat.reduceAdd, Nat.reduceLeDiff, Nat.reduceLT, Nat.reduceBEq, Nat.reduceSub, EE.down]
      obtain rfl := Option.some.inj h
      exact eM [some 0, some 1] rfl
    · have h := (if_neg g3).symm.trans h
      simp only [VW.down, Nat.reduceEqDiff, reduceCtorEq, Nat.reduceAdd, Nat.reduceLeDiff, Nat.reduceLT, Nat.reduceBEq, Nat.reduceSub, EE.down]
      obtain rfl := Option.some.inj h
      exact eM [some 0, some 1] rfl
  · rintro _ rfl
    clear ho
    simp only [VW.down, Nat.reduceEqDiff, reduceCtorEq, Nat.reduceAdd, Nat.reduceLeDiff, Nat.reduceLT, Nat.reduceBEq, Nat.reduceSub, EE.down]
    refine condB (fun c4 => ?_) (fun c4 => ?_)
    · have h := (if_pos c4).symm.trans h
      simp only [VW.down, Nat.reduceEqDiff, reduceCtorEq, Nat.reduceAdd, Nat.reduceLeDiff, Nat.reduceLT, Nat.reduceBEq, Nat.reduceSub, EE.down]
      obtain rfl := Option.some.inj h
      exact eF []
    · have h := (if_neg c4).symm.trans h
      simp only [VW.down, Nat.reduceEqDiff, reduceCtorEq, Nat.reduceAdd, Nat.reduceLeDiff, Nat.reduceLT, Nat.reduceBEq, Nat.reduceSub, EE.down]
      obtain ⟨t5, ht5, h⟩ := Option.bind_eq_some_iff.1 h
      refine callX_n [] (F50_ok ht5) ?_ ?_ ?_ ?_ ?_ ?_
      · first | rfl | simp [nrmA, nrmC, nrm, A1.ren, C.ren, rn, List.length_set]
      · simp [liveAll, A1.live, C.live]
      · rfl
      · decide
      · exact trivial
      simp only [VW.down, Nat.reduceEqDiff, reduceCtorEq, Nat.reduceAdd, Nat.reduceLeDiff, Nat.reduceLT, Nat.reduceBEq, Nat.reduceSub, EE.down]
      obtain ⟨o6, ho, h⟩ := Option.bind_eq_some_iff.1 h
      refine cutS (fun s => s = ⟨[(2, .one (.c (.d (.v (.int .i64 x2))))), (4, .one (.c (.pt 0 0))), (9, .one (.c (.own 1 0 0 (o6.length) none)))], [some (.box [.d (.v (.string x1.Meta.Kind)), .d (.v (.string x1.Meta.Namespace)), .d (.v (.string x1.Meta.Name)), .d (.v (.int .i64 x1.Meta.Uid)), .d (.v (.int .i64 x1.Meta.Version)), .d (.v (.int .i64 x1.Meta.Generation)), .d (.v (.int .i64 x1.Meta.Created)), .d (.v (.bool x1.Meta.Deleting)), .d (.v (.int .i64 x1.Meta.DeleteAt)), .d (.sl (x1.Meta.Labels.map eLabel)), .d (.sl (x1.Meta.Owners.map eOwner)), .d (.sl (x1.Meta.Finalizers.map eS)), .d (.sl (x1.Meta.Managers.map eManager)), .d (.v (.string x1.Spec.Node)), .d (.v (.int .i64 x1.Spec.Priority)), .d (.v (.int .i64 x1.Spec.Restart)), .d (.v (.int .i64 x1.Spec.Grace)), .d (.sl (x1.Spec.Containers.map eContainer)), .d (.sl (x1.Spec.NodeSelector.map eRequirement)), .d (.sl (x1.Spec.NodeTerms.map eNodeTerm)), .d (.sl (x1.Spec.PodTerms.map ePodTerm)), .d (.sl (x1.Spec.Spread.map eSpreadRule)), .d (.sl (x1.Spec.Tolerations.map eToleration)), .d (.v (.int .i64 x1.Status.Phase)), .d (.v (.bool x1.Status.Ready)), .d (.v (.int .i64 x1.Status.ReadySince)), .d (.v (.int .i64 x1.Status.Started)), .d (.v (.int .i64 x1.Status.Finished)), .d (.sl (x1.Status.Containers.map eContainerStatus)), .d (.v (.int .i64 x1.Status.Address)), .d (.v (.string x1.Status.Nominated)), .d (.v (.string x1.Status.Reason))]), some (.arr 0 4 (o6.map eTaint))]⟩) ?_ ?_
      · have h := ho
        clear ho
        simp only [VW.down, Nat.reduceEqDiff, reduceCtorEq, Nat.reduceAdd, Nat.reduceLeDiff, Nat.reduceLT, Nat.reduceBEq, Nat.reduceSub, EE.down]
        obtain ⟨t7, ht7, h⟩ := Option.bind_eq_some_iff.1 h
        refine callX_n [] (F59_ok ht7) ?_ ?_ ?_ ?_ ?_ ?_
        · first | rfl | simp [nrmA, nrmC, nrm, A1.ren, C.ren, rn, List.length_set]
        · simp [liveAll, A1.live, C.live]
        · rfl
        · decide
        · exact trivial
        simp only [VW.down, Nat.reduceEqDiff, reduceCtorEq, Nat.reduceAdd, Nat.reduceLeDiff, Nat.reduceLT, Nat.reduceBEq, Nat.reduceSub, EE.down]
        obtain ⟨o8, ho, h⟩ := Option.bind_eq_some_iff.1 h
        refine cutS (fun s => s = ⟨[(2, .one (.c (.d (.v (.int .i64 x2))))), (4, .one (.c (.pt 0 0))), (9, .one (.c (.own 1 0 0 (t5.length) none))), (40, .one (.c (.d (.v (.bool o8)))))], [some (.box [.d (.v (.string x1.Meta.Kind)), .d (.v (.string x1.Meta.Namespace)), .d (.v (.string x1.Meta.Name)), .d (.v (.int .i64 x1.Meta.Uid)), .d (.v (.int .i64 x1.Meta.Version)), .d (.v (.int .i64 x1.Meta.Generation)), .d (.v (.int .i64 x1.Meta.Created)), .d (.v (.bool x1.Meta.Deleting)), .d (.v (.int .i64 x1.Meta.DeleteAt)), .d (.sl (x1.Meta.Labels.map eLabel)), .d (.sl (x1.Meta.Owners.map eOwner)), .d (.sl (x1.Meta.Finalizers.map eS)), .d (.sl (x1.Meta.Managers.map eManager)), .d (.v (.string x1.Spec.Node)), .d (.v (.int .i64 x1.Spec.Priority)), .d (.v (.int .i64 x1.Spec.Restart)), .d (.v (.int .i64 x1.Spec.Grace)), .d (.sl (x1.Spec.Containers.map eContainer)), .d (.sl (x1.Spec.NodeSelector.map eRequirement)), .d (.sl (x1.Spec.NodeTerms.map eNodeTerm)), .d (.sl (x1.Spec.PodTerms.map ePodTerm)), .d (.sl (x1.Spec.Spread.map eSpreadRule)), .d (.sl (x1.Spec.Tolerations.map eToleration)), .d (.v (.int .i64 x1.Status.Phase)), .d (.v (.bool x1.Status.Ready)), .d (.v (.int .i64 x1.Status.ReadySince)), .d (.v (.int .i64 x1.Status.Started)), .d (.v (.int .i64 x1.Status.Finished)), .d (.sl (x1.Status.Containers.map eContainerStatus)), .d (.v (.int .i64 x1.Status.Address)), .d (.v (.string x1.Status.Nominated)), .d (.v (.string x1.Status.Reason))]), some (.arr 0 4 (t5.map eTaint))]⟩) ?_ ?_
        · have h := ho
          clear ho
          simp only [VW.down, Nat.reduceEqDiff, reduceCtorEq, Nat.reduceAdd, Nat.reduceLeDiff, Nat.reduceLT, Nat.reduceBEq, Nat.reduceSub, EE.down]
          refine guardSB (fun g9 => ?_) (fun g9 => ?_)
          · have h := (if_pos g9).symm.trans h
            simp only [VW.down, Nat.reduceEqDiff, reduceCtorEq, Nat.reduceAdd, Nat.reduceLeDiff, Nat.reduceLT, Nat.reduceBEq, Nat.reduceSub, EE.down]
            obtain rfl := Option.some.inj h
            exact eM [some 0, some 2] rfl
          · have h := (if_neg g9).symm.trans h
            simp only [VW.down, Nat.reduceEqDiff, reduceCtorEq, Nat.reduceAdd, Nat.reduceLeDiff, Nat.reduceLT, Nat.reduceBEq, Nat.reduceSub, EE.down]
            obtain rfl := Option.some.inj h
            exact eM [some 0, some 2] rfl
        · rintro _ rfl
          clear ho
          simp only [VW.down, Nat.reduceEqDiff, reduceCtorEq, Nat.reduceAdd, Nat.reduceLeDiff, Nat.reduceLT, Nat.reduceBEq, Nat.reduceSub, EE.down]
          refine condB (fun c10 => ?_) (fun c10 => ?_)
          · have h := (if_pos c10).symm.trans h
            simp only [VW.down, Nat.reduceEqDiff, reduceCtorEq, Nat.reduceAdd, Nat.reduceLeDiff, Nat.reduceLT, Nat.reduceBEq, Nat.reduceSub, EE.down]
            obtain ⟨t11, ht11, h⟩ := Option.bind_eq_some_iff.1 h
            refine callX_n [1] (F25v1_ok (e0 := 0) ht11) ?_ ?_ ?_ ?_ ?_ ?_
            · first | rfl | simp [nrmA, nrmC, nrm, A1.ren, C.ren, rn, List.length_set]
            · simp [liveAll, A1.live, C.live, hp]
            · rfl
            · decide
            · exact ⟨⟨rfl, trivial⟩, trivial⟩
            simp only [VW.down, Nat.reduceEqDiff, reduceCtorEq, Nat.reduceAdd, Nat.reduceLeDiff, Nat.reduceLT, Nat.reduceBEq, Nat.reduceSub, EE.down]
            obtain rfl := Option.some.inj h
            exact eM [some 0, some 1] rfl
          · have h := (if_neg c10).symm.trans h
            simp only [VW.down, Nat.reduceEqDiff, reduceCtorEq, Nat.reduceAdd, Nat.reduceLeDiff, Nat.reduceLT, Nat.reduceBEq, Nat.reduceSub, EE.down]
            obtain rfl := Option.some.inj h
            exact eM [some 0, some 1] rfl
      · rintro _ rfl
        clear ho
        simp only [VW.down, Nat.reduceEqDiff, reduceCtorEq, Nat.reduceAdd, Nat.reduceLeDiff, Nat.reduceLT, Nat.reduceBEq, Nat.reduceSub, EE.down]
        obtain ⟨t12, ht12, h⟩ := Option.bind_eq_some_iff.1 h
        refine callX_bor (F61_ok ht12) (by simp only [borAs, bors, hp, List.getElem?_cons_zero, List.getElem?_cons_succ, Option.join_some, List.drop_zero, bor_full', true_and, Nat.zero_add, List.length_map, Nat.le_refl, nrm, List.length_cons, List.length_nil, Nat.reduceAdd, Nat.reduceLeDiff, List.take_succ_cons, List.take_zero, List.take_nil, List.map_cons, List.map_nil, List.length_set, EE.down]) rfl ?_
        simp only [VW.down, Nat.reduceEqDiff, reduceCtorEq, Nat.reduceAdd, Nat.reduceLeDiff, Nat.reduceLT, Nat.reduceBEq, Nat.reduceSub, EE.down]
        obtain ⟨o13, ho, h⟩ := Option.bind_eq_some_iff.1 h
        refine cutS (fun s => s = ⟨[(6, .one (.c (.d (.v (.bool o13)))))], []⟩) ?_ ?_
        · have h := ho
          clear ho
          simp only [VW.down, Nat.reduceEqDiff, reduceCtorEq, Nat.reduceAdd, Nat.reduceLeDiff, Nat.reduceLT, Nat.reduceBEq, Nat.reduceSub, EE.down]
          refine guardSB (fun g14 => ?_) (fun g14 => ?_)
          · have h := (if_pos g14).symm.trans h
            simp only [VW.down, Nat.reduceEqDiff, reduceCtorEq, Nat.reduceAdd, Nat.reduceLeDiff, Nat.reduceLT, Nat.reduceBEq, Nat.reduceSub, EE.down]
            obtain ⟨t15, ht15, h⟩ := Option.bind_eq_some_iff.1 h
            refine callX_n [] (F23_ok ht15) ?_ ?_ ?_ ?_ ?_ ?_
            · first | rfl | simp [nrmA, nrmC, nrm, A1.ren, C.ren, rn, List.length_set]
            · simp [liveAll, A1.live, C.live]
            · rfl
            · decide
            · exact trivial
            simp only [VW.down, Nat.reduceEqDiff, reduceCtorEq, Nat.reduceAdd, Nat.reduceLeDiff, Nat.reduceLT, Nat.reduceBEq, Nat.reduceSub, EE.down]
            obtain rfl := Option.some.inj h
            exact eM [] rfl
          · have h := (if_neg g14).symm.trans h
            simp only [VW.down, Nat.reduceEqDiff, reduceCtorEq, Nat.reduceAdd, Nat.reduceLeDiff, Nat.reduceLT, Nat.reduceBEq, Nat.reduceSub, EE.down]
            obtain rfl := Option.some.inj h
            exact eM [] rfl
        · rintro _ rfl
          clear ho
          simp only [VW.down, Nat.reduceEqDiff, reduceCtorEq, Nat.reduceAdd, Nat.reduceLeDiff, Nat.reduceLT, Nat.reduceBEq, Nat.reduceSub, EE.down]
          obtain rfl := Option.some.inj h
          exact eF []

/- orchestrator/nodelife.Leave$2 -/
def F35 (x0 : Pod) (b0 : (List Node)) (b1 : Int) : Option (Bool) := (F36 b0 x0 b1).bind fun t1 => some t1
def a35 : AFn := ⟨9, [(.tmp 4)],
 (.seq (.reg [⟨(some 3), none, .box (.t 0), [], (.new [])⟩,
   ⟨(some 4), none, .mv (kB false), [], (.new [])⟩])
 (.seq (.reg [⟨(some 5), none, .load none (.t 1), [], (.new [])⟩,
   ⟨(some 6), none, .load (some 32) (.t 3), [], (.new [])⟩,
   ⟨(some 7), none, .load none (.t 2), [], (.new [])⟩,
   ⟨(some 8), none, .call 36 [(.t 5), (.t 6), (.t 7)], [], (.new [])⟩,
   ⟨(some 4), none, .mv (.t 8), [], (.new [])⟩])
 .ret))⟩
theorem a35_ok : afn Try.prog 35 = some a35.er := by kernel_rfl
theorem F35_ok {x0 : Pod} {b0 : (List Node)} {b1 : Int} {r : Bool} (h : F35 x0 b0 b1 = some r) : CallD Try.prog 35 [.agg [.d (.v (.string x0.Meta.Kind)), .d (.v (.string x0.Meta.Namespace)), .d (.v (.string x0.Meta.Name)), .d (.v (.int .i64 x0.Meta.Uid)), .d (.v (.int .i64 x0.Meta.Version)), .d (.v (.int .i64 x0.Meta.Generation)), .d (.v (.int .i64 x0.Meta.Created)), .d (.v (.bool x0.Meta.Deleting)), .d (.v (.int .i64 x0.Meta.DeleteAt)), .d (.sl (x0.Meta.Labels.map eLabel)), .d (.sl (x0.Meta.Owners.map eOwner)), .d (.sl (x0.Meta.Finalizers.map eS)), .d (.sl (x0.Meta.Managers.map eManager)), .d (.v (.string x0.Spec.Node)), .d (.v (.int .i64 x0.Spec.Priority)), .d (.v (.int .i64 x0.Spec.Restart)), .d (.v (.int .i64 x0.Spec.Grace)), .d (.sl (x0.Spec.Containers.map eContainer)), .d (.sl (x0.Spec.NodeSelector.map eRequirement)), .d (.sl (x0.Spec.NodeTerms.map eNodeTerm)), .d (.sl (x0.Spec.PodTerms.map ePodTerm)), .d (.sl (x0.Spec.Spread.map eSpreadRule)), .d (.sl (x0.Spec.Tolerations.map eToleration)), .d (.v (.int .i64 x0.Status.Phase)), .d (.v (.bool x0.Status.Ready)), .d (.v (.int .i64 x0.Status.ReadySince)), .d (.v (.int .i64 x0.Status.Started)), .d (.v (.int .i64 x0.Status.Finished)), .d (.sl (x0.Status.Containers.map eContainerStatus)), .d (.v (.int .i64 x0.Status.Address)), .d (.v (.string x0.Status.Nominated)), .d (.v (.string x0.Status.Reason))], .c (.pt 0 0), .c (.pt 1 0)] [some (.box [.d (.sl (b0.map eNode))]), some (.box [.d (.v (.int .i64 b1))])] (tupV [.c (.d (.v (.bool r)))]) [some (.box [.d (.sl (b0.map eNode))]), some (.box [.d (.v (.int .i64 b1))])] := by
  refine callS a35_ok (by simp [a35]) ?_
  rw [F35] at h
  simp only [a35, VW.down, Nat.reduceEqDiff, reduceCtorEq, Nat.reduceAdd, Nat.reduceLeDiff, Nat.reduceLT, Nat.reduceBEq, Nat.reduceSub, EE.down]
  obtain ⟨t1, ht1, h⟩ := Option.bind_eq_some_iff.1 h
  refine callX_n [] (F36_ok ht1) ?_ ?_ ?_ ?_ ?_ ?_
  · first | rfl | simp [nrmA, nrmC, nrm, A1.ren, C.ren, rn, List.length_set]
  · simp [liveAll, A1.live, C.live]
  · rfl
  · decide
  · exact trivial
  simp only [VW.down, Nat.reduceEqDiff, reduceCtorEq, Nat.reduceAdd, Nat.reduceLeDiff, Nat.reduceLT, Nat.reduceBEq, Nat.reduceSub, EE.down]
  obtain rfl := Option.some.inj h
  exact eF [some 0, some 1]

/- slices.Sort at strings -/
def Try.laysSort_ren : Go.Shelf.Ren := ⟨fun | 190 => 57 | 125 => 67 | 258 => 66 | 128 => 79 | 129 => 80 | 302 => 70 | 303 => 71 | 304 => 72 | 305 => 73 | 306 => 74 | 307 => 75 | 308 => 76 | 309 => 77 | 310 => 78 | 333 => 83 | 329 => 84 | 330 => 85 | 334 => 86 | 335 => 87 | 336 => 88 | 344 => 89 | n => n, fun | 31 => 24 | 9 => 9 | 3 => 3 | 46 => 114 | 0 => 0 | 51 => 125 | 53 => 127 | 4 => 4 | 183 => 118 | 182 => 117 | 131 => 84 | 5 => 5 | 218 => 129 | 222 => 133 | 228 => 136 | 229 => 137 | n => n, fun | n => n⟩
theorem Try.laysSort : Go.Proofs.Lays.n190 Try.prog Try.laysSort_ren := {
  mixed := by kernel_rfl
  f125 := Try.func67.trans (congrArg some (by kernel_rfl))
  f128 := Try.func79.trans (congrArg some (by kernel_rfl))
  f129 := Try.func80.trans (congrArg some (by kernel_rfl))
  f190 := Try.func57.trans (congrArg some (by kernel_rfl))
  f258 := Try.func66.trans (congrArg some (by kernel_rfl))
  f302 := Try.func70.trans (congrArg some (by kernel_rfl))
  f303 := Try.func71.trans (congrArg some (by kernel_rfl))
  f304 := Try.func72.trans (congrArg some (by kernel_rfl))
  f305 := Try.func73.trans (congrArg some (by kernel_rfl))
  f306 := Try.func74.trans (congrArg some (by kernel_rfl))
  f307 := Try.func75.trans (congrArg some (by kernel_rfl))
  f308 := Try.func76.trans (congrArg some (by kernel_rfl))
  f309 := Try.func77.trans (congrArg some (by kernel_rfl))
  f310 := Try.func78.trans (congrArg some (by kernel_rfl))
  f329 := Try.func84.trans (congrArg some (by kernel_rfl))
  f330 := Try.func85.trans (congrArg some (by kernel_rfl))
  f333 := Try.func83.trans (congrArg some (by kernel_rfl))
  f334 := Try.func86.trans (congrArg some (by kernel_rfl))
  f335 := Try.func87.trans (congrArg some (by kernel_rfl))
  f336 := Try.func88.trans (congrArg some (by kernel_rfl))
  f344 := Try.func89.trans (congrArg some (by kernel_rfl))
  t0 := Try.underlying0
  a0 := Try.isAgg0
  z0 := Try.sizeOf0
  v0 := Try.zeroValue0
  t3 := Try.underlying3
  a3 := Try.isAgg3
  z3 := Try.sizeOf3
  v3 := Try.zeroValue3
  t4 := Try.underlying4
  a4 := Try.isAgg4
  z4 := Try.sizeOf4
  v4 := Try.zeroValue4
  t5 := Try.underlying5
  a5 := Try.isAgg5
  z5 := Try.sizeOf5
  v5 := Try.zeroValue5
  t9 := Try.underlying9
  a9 := Try.isAgg9
  z9 := Try.sizeOf9
  v9 := Try.zeroValue9
  t31 := Try.underlying24
  a31 := Try.isAgg24
  z31 := Try.sizeOf24
  v31 := Try.zeroValue24
  t46 := Try.underlying114
  a46 := Try.isAgg114
  z46 := Try.sizeOf114
  v46 := Try.zeroValue114
  t51 := Try.underlying125
  a51 := Try.isAgg125
  z51 := Try.sizeOf125
  v51 := Try.zeroValue125
  t53 := Try.underlying127
  a53 := Try.isAgg127
  z53 := Try.sizeOf127
  v53 := Try.zeroValue127
  t131 := Try.underlying84
  a131 := Try.isAgg84
  z131 := Try.sizeOf84
  v131 := Try.zeroValue84
  t182 := Try.underlying117
  a182 := Try.isAgg117
  z182 := Try.sizeOf117
  v182 := Try.zeroValue117
  t183 := Try.underlying118
  a183 := Try.isAgg118
  z183 := Try.sizeOf118
  v183 := Try.zeroValue118
  t218 := Try.underlying129
  a218 := Try.isAgg129
  z218 := Try.sizeOf129
  v218 := Try.zeroValue129
  t222 := Try.underlying133
  a222 := Try.isAgg133
  z222 := Try.sizeOf133
  v222 := Try.zeroValue133
  t228 := Try.underlying136
  a228 := Try.isAgg136
  z228 := Try.sizeOf136
  v228 := Try.zeroValue136
  t229 := Try.underlying137
  a229 := Try.isAgg137
  z229 := Try.sizeOf137
  v229 := Try.zeroValue137 }
theorem F57_ok {x0 r : List ByteArray} {e0 : Nat} (h : sortI x0 = some r) : CallD Try.prog 57 [.c (.own 0 e0 0 x0.length none)] [some (.arr e0 1 (x0.map eS))] (tupV []) [some (.arr e0 1 (r.map eS))] := L_sort (ρ := Try.laysSort_ren) Try.laysSort rfl (by kernel_rfl) h

/- slices.Compact at strings -/
def Try.laysComp_ren : Go.Shelf.Ren := ⟨fun | 194 => 58 | n => n, fun | 31 => 24 | 9 => 9 | 3 => 3 | 4 => 4 | 0 => 0 | n => n, fun | n => n⟩
theorem Try.laysComp : Go.Proofs.Lays.n194 Try.prog Try.laysComp_ren := {
  mixed := by kernel_rfl
  f194 := Try.func58.trans (congrArg some (by kernel_rfl))
  t0 := Try.underlying0
  a0 := Try.isAgg0
  z0 := Try.sizeOf0
  v0 := Try.zeroValue0
  t3 := Try.underlying3
  a3 := Try.isAgg3
  z3 := Try.sizeOf3
  v3 := Try.zeroValue3
  t4 := Try.underlying4
  a4 := Try.isAgg4
  z4 := Try.sizeOf4
  v4 := Try.zeroValue4
  t9 := Try.underlying9
  a9 := Try.isAgg9
  z9 := Try.sizeOf9
  v9 := Try.zeroValue9
  t31 := Try.underlying24
  a31 := Try.isAgg24
  z31 := Try.sizeOf24
  v31 := Try.zeroValue24 }
theorem F58_ok {x0 r : List ByteArray} {e0 : Nat} (h : compI x0 = some r) : CallD Try.prog 58 [.c (.own 0 e0 0 x0.length none)] [some (.arr e0 1 (x0.map eS))] (tupV [.c (.own 0 (e0 + 1) 0 r.length none)]) [some (.arr (e0 + 1) 1 (r.map eS))] := L_comp (ρ := Try.laysComp_ren) Try.laysComp rfl (by kernel_rfl) h

/- orchestrator/nodelife.chosen -/
def F34_l1 (b0 : (List Node)) (b1 : Int) : List Pod → Nat → (List ByteArray) → Option ((List ByteArray))
  | [], o1_1, o1_0 => some o1_0
  | xo1 :: xs, o1_1, o1_0 => (((F35 xo1 b0 b1).bind fun t4 => (if t4 = true then (F19 xo1.Meta).bind fun t6 => (apI o1_0 ([t6])).bind fun a7 => some a7 else some o1_0)).bind fun o3 => F34_l1 b0 b1 xs (o1_1 + 1) o3)
def F34 (x0 : (List Pod)) (b0 : (List Node)) (b1 : Int) : Option ((List ByteArray)) := (((ck (0 ≤ x0.length ∧ x0.length ≤ 4294967290)).bind fun u8 => F34_l1 b0 b1 x0 0 ([])).bind fun o1 => (sortI o1).bind fun t9 => (compI t9).bind fun t10 => some t10)
def a34 : AFn := ⟨28, [(.tmp 4)],
 (.seq (.reg [⟨(some 4), none, .mv kN, [], (.new [])⟩])
 (.seq (.reg [⟨(some 5), none, .mv kN, [], (.new [])⟩])
 (.seq (.seq (.reg [⟨(some 8), none, .mv (.t 0), [], (.new [])⟩,
   ⟨(some 9), none, .len (.t 8), [], (.new [])⟩,
   ⟨(some 10), none, .mv (kI 0), [], (.new [])⟩])
 (.sem (.block 0 (.loop (.seq (.reg [⟨(some 11), none, .bin .lss (.t 10) (.t 9), [], (.new [])⟩])
 (.seq (.cond (.t 11)
 .skip
 (.exit 0))
 (.seq (.sem (.block 1 (.seq (.reg [⟨(some 12), none, .indexA 32 (.t 8) (.t 10), [], (.new [])⟩,
   ⟨(some 13), none, .load (some 32) (.t 12), [], (.new [])⟩,
   ⟨(some 7), none, .zbox [.d (.v (.string ⟨#[]⟩)), .d (.v (.string ⟨#[]⟩)), .d (.v (.string ⟨#[]⟩)), .d (.v (.int .i64 0)), .d (.v (.int .i64 0)), .d (.v (.int .i64 0)), .d (.v (.int .i64 0)), .d (.v (.bool false)), .d (.v (.int .i64 0)), .d (.v (.slice none 0 0)), .d (.v (.slice none 0 0)), .d (.v (.slice none 0 0)), .d (.v (.slice none 0 0)), .d (.v (.string ⟨#[]⟩)), .d (.v (.int .i64 0)), .d (.v (.int .i64 0)), .d (.v (.int .i64 0)), .d (.v (.slice none 0 0)), .d (.v (.slice none 0 0)), .d (.v (.slice none 0 0)), .d (.v (.slice none 0 0)), .d (.v (.slice none 0 0)), .d (.v (.slice none 0 0)), .d (.v (.int .i64 0)), .d (.v (.bool false)), .d (.v (.int .i64 0)), .d (.v (.int .i64 0)), .d (.v (.int .i64 0)), .d (.v (.slice none 0 0)), .d (.v (.int .i64 0)), .d (.v (.string ⟨#[]⟩)), .d (.v (.string ⟨#[]⟩))], [], (.new [])⟩,
   ⟨none, none, .store 32 (.t 7) (.t 13), [], (.new [])⟩])
 (.seq (.reg [⟨(some 14), none, .mv (.t 1), [], (.new [])⟩,
   ⟨(some 15), none, .load (some 32) (.t 7), [], (.new [])⟩,
   ⟨(some 16), none, .callv (.t 14) [(.t 15)], [], (.lone [7])⟩])
 (.cond (.t 16)
 (.reg [⟨(some 17), none, .mv (.t 5), [], (.new [])⟩,
   ⟨(some 18), none, .fieldA 0 (.t 7), [], (.new [])⟩,
   ⟨(some 19), none, .load (some 13) (.t 18), [], (.new [])⟩,
   ⟨(some 20), none, .call 19 [(.t 19)], [], (.new [])⟩,
   ⟨(some 21), none, .bslice 1 [(.t 20)], [], (.new [])⟩,
   ⟨(some 22), none, .app 1 16 (.t 17) (.t 21), [], (.new [])⟩,
   ⟨(some 5), none, .mv (.t 22), [], (.new [])⟩])
 .skip)))))
 (.reg [⟨(some 23), none, .bin .add (.t 10) (kI 1), [], (.new [])⟩,
   ⟨(some 10), none, .mv (.t 23), [], (.new [])⟩]))))))))
 (.seq (.reg [⟨(some 24), none, .mv (.t 5), [], (.new [])⟩,
   ⟨(some 25), none, .call 57 [(.t 24)], [], (.lone [])⟩])
 (.seq (.reg [⟨(some 26), none, .mv (.t 5), [], (.new [])⟩,
   ⟨(some 27), none, .call 58 [(.t 26)], [], (.new [])⟩,
   ⟨(some 4), none, .mv (.t 27), [], (.new [])⟩])
 .ret)))))⟩
theorem a34_ok : afn Try.prog 34 = some a34.er := by kernel_rfl
theorem F34_ok {x0 : (List Pod)} {b0 : (List Node)} {b1 : Int} {r : (List ByteArray)} (h : F34 x0 b0 b1 = some r) : CallD Try.prog 34 [.c (.d (.sl (x0.map ePod))), .c (.fn 35 [(0, 0), (1, 0)])] [some (.box [.d (.sl (b0.map eNode))]), some (.box [.d (.v (.int .i64 b1))])] (tupV [.c (.own 2 0 0 (r.length) none)]) [some (.box [.d (.sl (b0.map eNode))]), some (.box [.d (.v (.int .i64 b1))]), some (.arr 0 1 (r.map eS))] := by
  refine callS a34_ok (by simp [a34]) ?_
  rw [F34] at h
  simp only [a34, VW.down, Nat.reduceEqDiff, reduceCtorEq, Nat.reduceAdd, Nat.reduceLeDiff, Nat.reduceLT, Nat.reduceBEq, Nat.reduceSub, EE.down]
  obtain ⟨o1, ho, h⟩ := Option.bind_eq_some_iff.1 h
  refine cutS (fun s => s = ⟨[(5, .one (.c (.own 2 0 0 (o1.length) none)))], [some (.box [.d (.sl (b0.map eNode))]), some (.box [.d (.v (.int .i64 b1))]), some (.arr 0 1 (o1.map eS))]⟩) ?_ ?_
  · have h := ho
    clear ho
    obtain ⟨_, hk, h⟩ := Option.bind_eq_some_iff.1 h
    have hk := ck_some hk
    simp only [VW.down, Nat.reduceEqDiff, reduceCtorEq, Nat.reduceAdd, Nat.reduceLeDiff, Nat.reduceLT, Nat.reduceBEq, Nat.reduceSub, EE.down]
    refine bL (fun j s => ∃ (o1_1 : Nat) (o1_0 : List ByteArray), (o1_1 ≤ x0.length ∧ j = x0.length - o1_1) ∧ s = ⟨[(1, .one (.c (.fn 35 [(0, 0), (1, 0)]))), (5, .one (.c (.own 2 0 0 (o1_0.length) none))), (8, .one (.c (.d (.sl (x0.map ePod))))), (9, .one (.c (.d (.v (.int .i64 ((x0.length : Int))))))), (10, .one (.c (.d (.v (.int .i64 ((o1_1 : Int)))))))], [some (.box [.d (.sl (b0.map eNode))]), some (.box [.d (.v (.int .i64 b1))]), some (.arr 0 1 (o1_0.map eS))]⟩ ∧ F34_l1 b0 b1 (x0.drop o1_1) o1_1 o1_0 = some o1) (x0.length - 0) [some 0, some 1, none] ⟨0, [], ⟨hk.1, rfl⟩, rfl, h⟩ ?_
    rintro _ _ ⟨o1_1, o1_0, ⟨hi, rfl⟩, rfl, h⟩
    simp only [VW.down, Nat.reduceEqDiff, reduceCtorEq, Nat.reduceAdd, Nat.reduceLeDiff, Nat.reduceLT, Nat.reduceBEq, Nat.reduceSub, EE.down]
    refine condS (fun c2 => ?_) (fun c2 => ?_)
    · obtain ⟨xo1, hxo1, hd⟩ := countY (show (o1_1 : Int) < (x0.length : Int) from c2)
      rw [hd, F34_l1] at h
      simp only [VW.down, Nat.reduceEqDiff, reduceCtorEq, Nat.reduceAdd, Nat.reduceLeDiff, Nat.reduceLT, Nat.reduceBEq, Nat.reduceSub, EE.down]
      obtain ⟨o3, ho, h⟩ := Option.bind_eq_some_iff.1 h
      refine cutS (fun s => s = ⟨[(1, .one (.c (.fn 35 [(0, 0), (1, 0)]))), (5, .one (.c (.own 2 0 0 (o3.length) none))), (8, .one (.c (.d (.sl (x0.map ePod))))), (9, .one (.c (.d (.v (.int .i64 ((x0.length : Int))))))), (10, .one (.c (.d (.v (.int .i64 ((o1_1 : Int)))))))], [some (.box [.d (.sl (b0.map eNode))]), some (.box [.d (.v (.int .i64 b1))]), some (.arr 0 1 (o3.map eS))]⟩) ?_ ?_
      · have h := ho
        clear ho
        simp only [VW.down, Nat.reduceEqDiff, reduceCtorEq, Nat.reduceAdd, Nat.reduceLeDiff, Nat.reduceLT, Nat.reduceBEq, Nat.reduceSub, EE.down]
        refine t_idxF (enc := ePod) (xs := x0) rfl rfl hxo1 rfl ?_
        simp only [VW.down, Nat.reduceEqDiff, reduceCtorEq, Nat.reduceAdd, Nat.reduceLeDiff, Nat.reduceLT, Nat.reduceBEq, Nat.reduceSub, EE.down]
        obtain ⟨t4, ht4, h⟩ := Option.bind_eq_some_iff.1 h
        refine callX_n [0, 1] (F35_ok ht4) ?_ ?_ ?_ ?_ ?_ ?_
        · first | rfl | simp [nrmA, nrmC, nrm, A1.ren, C.ren, rn, List.length_set]
        · simp [liveAll, A1.live, C.live, hp]
        · rfl
        · decide
        · exact ⟨⟨rfl, by simp [Blk.live, C.live, hp]⟩, ⟨⟨rfl, by simp [Blk.live, C.live, hp]⟩, trivial⟩⟩
        simp only [VW.down, Nat.reduceEqDiff, reduceCtorEq, Nat.reduceAdd, Nat.reduceLeDiff, Nat.reduceLT, Nat.reduceBEq, Nat.reduceSub, EE.down]
        refine condB (fun c5 => ?_) (fun c5 => ?_)
        · have h := (if_pos c5).symm.trans h
          simp only [VW.down, Nat.reduceEqDiff, reduceCtorEq, Nat.reduceAdd, Nat.reduceLeDiff, Nat.reduceLT, Nat.reduceBEq, Nat.reduceSub, EE.down]
          obtain ⟨t6, ht6, h⟩ := Option.bind_eq_some_iff.1 h
          refine callX_n [] (F19_ok ht6) ?_ ?_ ?_ ?_ ?_ ?_
          · first | rfl | simp [nrmA, nrmC, nrm, A1.ren, C.ren, rn, List.length_set]
          · simp [liveAll, A1.live, C.live]
          · rfl
          · decide
          · exact trivial
          simp only [VW.down, Nat.reduceEqDiff, reduceCtorEq, Nat.reduceAdd, Nat.reduceLeDiff, Nat.reduceLT, Nat.reduceBEq, Nat.reduceSub, EE.down]
          refine t_bslice (enc := eS) (ys := [t6]) rfl rfl (by simp [A1.cells]) (by first | rfl | (simp only [List.drop_zero, take_mapL]; rfl)) ?_
          simp only [VW.down, Nat.reduceEqDiff, reduceCtorEq, Nat.reduceAdd, Nat.reduceLeDiff, Nat.reduceLT, Nat.reduceBEq, Nat.reduceSub, EE.down]
          obtain ⟨a7, ha7, h⟩ := Option.bind_eq_some_iff.1 h
          refine t_app (enc := eS) (xs := o1_0) rfl rfl (by first | rfl | simp only [List.length_set] | exact (clrL_len (slI_len (by assumption))).symm) rfl (rows_full (enc := eS) (by first | rfl | simp only [List.length_set] | exact (clrL_len (slI_len (by assumption))).symm) rfl) ha7 ?_
          simp only [VW.down, Nat.reduceEqDiff, reduceCtorEq, Nat.reduceAdd, Nat.reduceLeDiff, Nat.reduceLT, Nat.reduceBEq, Nat.reduceSub, EE.down]
          obtain rfl := Option.some.inj h
          exact eM [some 0, some 1, some 2] rfl
        · have h := (if_neg c5).symm.trans h
          simp only [VW.down, Nat.reduceEqDiff, reduceCtorEq, Nat.reduceAdd, Nat.reduceLeDiff, Nat.reduceLT, Nat.reduceBEq, Nat.reduceSub, EE.down]
          obtain rfl := Option.some.inj h
          exact eM [some 0, some 1, some 2] rfl
      · rintro _ rfl
        clear ho
        simp only [VW.down, Nat.reduceEqDiff, reduceCtorEq, Nat.reduceAdd, Nat.reduceLeDiff, Nat.reduceLT, Nat.reduceBEq, Nat.reduceSub, EE.down]
        rw [wrapN (by omega)]
        exact eL' (x0.length - (o1_1 + 1)) [some 0, some 1, some 2] ⟨o1_1 + 1, o3, ⟨by omega, rfl⟩, rfl, h⟩ (by omega)
    · rw [countN (show ¬ ((o1_1 : Int) < (x0.length : Int)) from c2), F34_l1] at h
      simp only [VW.down, Nat.reduceEqDiff, reduceCtorEq, Nat.reduceAdd, Nat.reduceLeDiff, Nat.reduceLT, Nat.reduceBEq, Nat.reduceSub, EE.down]
      obtain rfl := Option.some.inj h
      exact eM [some 0, some 1, some 2] rfl
  · rintro _ rfl
    clear ho
    simp only [VW.down, Nat.reduceEqDiff, reduceCtorEq, Nat.reduceAdd, Nat.reduceLeDiff, Nat.reduceLT, Nat.reduceBEq, Nat.reduceSub, EE.down]
    obtain ⟨t9, ht9, h⟩ := Option.bind_eq_some_iff.1 h
    refine callX_n [2] (F57_ok (e0 := 0) ht9) ?_ ?_ ?_ ?_ ?_ ?_
    · first | rfl | simp [nrmA, nrmC, nrm, A1.ren, C.ren, rn, List.length_set]
    · simp [liveAll, A1.live, C.live, hp]
    · rfl
    · decide
    · exact ⟨⟨rfl, trivial⟩, trivial⟩
    try rw [← sortI_len ht9]
    simp only [VW.down, Nat.reduceEqDiff, reduceCtorEq, Nat.reduceAdd, Nat.reduceLeDiff, Nat.reduceLT, Nat.reduceBEq, Nat.reduceSub, EE.down]
    obtain ⟨t10, ht10, h⟩ := Option.bind_eq_some_iff.1 h
    refine callX_n [2] (F58_ok (e0 := 0) ht10) ?_ ?_ ?_ ?_ ?_ ?_
    · first | rfl | simp [nrmA, nrmC, nrm, A1.ren, C.ren, rn, List.length_set]
    · simp [liveAll, A1.live, C.live, hp]
    · rfl
    · decide
    · exact ⟨⟨rfl, trivial⟩, trivial⟩
    simp only [VW.down, Nat.reduceEqDiff, reduceCtorEq, Nat.reduceAdd, Nat.reduceLeDiff, Nat.reduceLT, Nat.reduceBEq, Nat.reduceSub, EE.down]
    obtain rfl := Option.some.inj h
    exact eF [some 0, some 1, some 2]

/- orchestrator/nodelife.Leave -/
def F13 (x0 : (List Node)) (x1 : (List Pod)) (x2 : Int) : Option ((List ByteArray)) := (F32 x0).bind fun t1 => (if (nb t1) = true then some ([]) else (F34 x1 x0 x2).bind fun t3 => some t3)
def a13 : AFn := ⟨13, [(.tmp 6)],
 (.seq (.reg [⟨(some 3), none, .box (.t 0), [], (.new [])⟩,
   ⟨(some 5), none, .box (.t 2), [], (.new [])⟩,
   ⟨(some 6), none, .mv kN, [], (.new [])⟩])
 (.seq (.seq (.reg [⟨(some 7), none, .load none (.t 3), [], (.new [])⟩,
   ⟨(some 8), none, .call 32 [(.t 7), (.f 33)], [], (.new [])⟩,
   ⟨(some 9), none, .not (.t 8), [], (.new [])⟩])
 (.cond (.t 9)
 (.seq (.reg [⟨(some 6), none, .mv kN, [], (.new [])⟩])
 .ret)
 .skip))
 (.seq (.reg [⟨(some 10), none, .mv (.t 1), [], (.new [])⟩,
   ⟨(some 11), none, .fn 35 [(.t 3), (.t 5)], [], (.new [])⟩,
   ⟨(some 12), none, .call 34 [(.t 10), (.t 11)], [], (.new [])⟩,
   ⟨(some 6), none, .mv (.t 12), [], (.new [])⟩])
 .ret)))⟩
theorem a13_ok : afn Try.prog 13 = some a13.er := by kernel_rfl
theorem F13_ok {x0 : (List Node)} {x1 : (List Pod)} {x2 : Int} {r : (List ByteArray)} (h : F13 x0 x1 x2 = some r) : CallD Try.prog 13 [.c (.d (.sl (x0.map eNode))), .c (.d (.sl (x1.map ePod))), .c (.d (.v (.int .i64 x2)))] [] (tupV [.c (.own 0 0 0 (r.length) none)]) [some (.arr 0 1 (r.map eS))] := by
  refine callS a13_ok (by simp [a13]) ?_
  rw [F13] at h
  simp only [a13, VW.down, Nat.reduceEqDiff, reduceCtorEq, Nat.reduceAdd, Nat.reduceLeDiff, Nat.reduceLT, Nat.reduceBEq, Nat.reduceSub, EE.down]
  obtain ⟨t1, ht1, h⟩ := Option.bind_eq_some_iff.1 h
  refine callX_n [] (F32_ok ht1) ?_ ?_ ?_ ?_ ?_ ?_
  · first | rfl | simp [nrmA, nrmC, nrm, A1.ren, C.ren, rn, List.length_set]
  · simp [liveAll, A1.live, C.live]
  · rfl
  · decide
  · exact trivial
  simp only [VW.down, Nat.reduceEqDiff, reduceCtorEq, Nat.reduceAdd, Nat.reduceLeDiff, Nat.reduceLT, Nat.reduceBEq, Nat.reduceSub, EE.down]
  refine condB (fun c2 => ?_) (fun c2 => ?_)
  · have h := (if_pos c2).symm.trans h
    simp only [VW.down, Nat.reduceEqDiff, reduceCtorEq, Nat.reduceAdd, Nat.reduceLeDiff, Nat.reduceLT, Nat.reduceBEq, Nat.reduceSub, EE.down]
    obtain rfl := Option.some.inj h
    exact eF [none]
  · have h := (if_neg c2).symm.trans h
    simp only [VW.down, Nat.reduceEqDiff, reduceCtorEq, Nat.reduceAdd, Nat.reduceLeDiff, Nat.reduceLT, Nat.reduceBEq, Nat.reduceSub, EE.down]
    obtain ⟨t3, ht3, h⟩ := Option.bind_eq_some_iff.1 h
    refine callX_n [0, 1] (F34_ok ht3) ?_ ?_ ?_ ?_ ?_ ?_
    · first | rfl | simp [nrmA, nrmC, nrm, A1.ren, C.ren, rn, List.length_set]
    · simp [liveAll, A1.live, C.live, hp]
    · rfl
    · decide
    · exact ⟨⟨rfl, by simp [Blk.live, C.live, hp]⟩, ⟨⟨rfl, by simp [Blk.live, C.live, hp]⟩, trivial⟩⟩
    simp only [VW.down, Nat.reduceEqDiff, reduceCtorEq, Nat.reduceAdd, Nat.reduceLeDiff, Nat.reduceLT, Nat.reduceBEq, Nat.reduceSub, EE.down]
    obtain rfl := Option.some.inj h
    exact eF [some 2]

/- orchestrator/nodelife.Gone$1 -/
def F42 (x0 : Pod) (b0 : (List Node)) : Option (Bool) := (F43 b0 x0).bind fun t1 => (((if ¬ (x0.Spec.Node = (⟨#[]⟩ : ByteArray)) then some (nb t1.2) else some false)).bind fun o2 => some o2)
def a42 : AFn := ⟨20, [(.tmp 3)],
 (.seq (.reg [⟨(some 2), none, .box (.t 0), [], (.new [])⟩,
   ⟨(some 3), none, .mv (kB false), [], (.new [])⟩])
 (.seq (.reg [⟨(some 7), none, .load none (.t 1), [], (.new [])⟩,
   ⟨(some 8), none, .load (some 32) (.t 2), [], (.new [])⟩,
   ⟨(some 9), none, .call 43 [(.t 7), (.t 8)], [], (.new [])⟩,
   ⟨(some 6), none, .mv (.t 9), [], (.new [])⟩,
   ⟨(some 10), none, .ext (.t 6) 0, [], (.new [])⟩,
   ⟨(some 11), none, .ext (.t 6) 1, [], (.new [])⟩,
   ⟨(some 4), none, .zbox [.d (.v (.string ⟨#[]⟩)), .d (.v (.string ⟨#[]⟩)), .d (.v (.string ⟨#[]⟩)), .d (.v (.int .i64 0)), .d (.v (.int .i64 0)), .d (.v (.int .i64 0)), .d (.v (.int .i64 0)), .d (.v (.bool false)), .d (.v (.int .i64 0)), .d (.v (.slice none 0 0)), .d (.v (.slice none 0 0)), .d (.v (.slice none 0 0)), .d (.v (.slice none 0 0)), .d (.v (.int .i64 0)), .d (.v (.int .i64 0)), .d (.v (.int .i64 0)), .d (.v (.int .i64 0)), .d (.v (.bool false)), .d (.v (.slice none 0 0)), .d (.v (.bool false)), .d (.v (.int .i64 0)), .d (.v (.bool false)), .d (.v (.bool false)), .d (.v (.slice none 0 0))], [], (.new [])⟩,
   ⟨none, none, .store 24 (.t 4) (.t 10), [], (.new [])⟩,
   ⟨(some 5), none, .mv (.t 11), [], (.new [])⟩])
 (.seq (.sem (.reg [⟨(some 12), none, .fieldA 13 (.t 2), [], (.new [])⟩,
   ⟨(some 13), none, .fieldA 0 (.t 12), [], (.new [])⟩,
   ⟨(some 14), none, .load none (.t 13), [], (.new [])⟩,
   ⟨(some 15), none, .bin .neq (.t 14) (kS ⟨#[]⟩), [], (.new [])⟩,
   ⟨(some 16), none, .mv (.t 15), [], (.new [])⟩,
   ⟨(some 17), (some (16, true)), .mv (.t 5), [], (.new [])⟩,
   ⟨(some 18), (some (16, true)), .not (.t 17), [], (.new [])⟩,
   ⟨(some 19), none, .pick (.t 16) (.t 18) (kB false), [], (.new [])⟩,
   ⟨(some 3), none, .mv (.t 19), [], (.new [])⟩]))
 .ret)))⟩
theorem a42_ok : afn Try.prog 42 = some a42.er := by kernel_rfl
theorem F42_ok {x0 : Pod} {b0 : (List Node)} {r : Bool} (h : F42 x0 b0 = some r) : CallD Try.prog 42 [.agg [.d (.v (.string x0.Meta.Kind)), .d (.v (.string x0.Meta.Namespace)), .d (.v (.string x0.Meta.Name)), .d (.v (.int .i64 x0.Meta.Uid)), .d (.v (.int .i64 x0.Meta.Version)), .d (.v (.int .i64 x0.Meta.Generation)), .d (.v (.int .i64 x0.Meta.Created)), .d (.v (.bool x0.Meta.Deleting)), .d (.v (.int .i64 x0.Meta.DeleteAt)), .d (.sl (x0.Meta.Labels.map eLabel)), .d (.sl (x0.Meta.Owners.map eOwner)), .d (.sl (x0.Meta.Finalizers.map eS)), .d (.sl (x0.Meta.Managers.map eManager)), .d (.v (.string x0.Spec.Node)), .d (.v (.int .i64 x0.Spec.Priority)), .d (.v (.int .i64 x0.Spec.Restart)), .d (.v (.int .i64 x0.Spec.Grace)), .d (.sl (x0.Spec.Containers.map eContainer)), .d (.sl (x0.Spec.NodeSelector.map eRequirement)), .d (.sl (x0.Spec.NodeTerms.map eNodeTerm)), .d (.sl (x0.Spec.PodTerms.map ePodTerm)), .d (.sl (x0.Spec.Spread.map eSpreadRule)), .d (.sl (x0.Spec.Tolerations.map eToleration)), .d (.v (.int .i64 x0.Status.Phase)), .d (.v (.bool x0.Status.Ready)), .d (.v (.int .i64 x0.Status.ReadySince)), .d (.v (.int .i64 x0.Status.Started)), .d (.v (.int .i64 x0.Status.Finished)), .d (.sl (x0.Status.Containers.map eContainerStatus)), .d (.v (.int .i64 x0.Status.Address)), .d (.v (.string x0.Status.Nominated)), .d (.v (.string x0.Status.Reason))], .c (.pt 0 0)] [some (.box [.d (.sl (b0.map eNode))])] (tupV [.c (.d (.v (.bool r)))]) [some (.box [.d (.sl (b0.map eNode))])] := by
  refine callS a42_ok (by simp [a42]) ?_
  rw [F42] at h
  simp only [a42, VW.down, Nat.reduceEqDiff, reduceCtorEq, Nat.reduceAdd, Nat.reduceLeDiff, Nat.reduceLT, Nat.reduceBEq, Nat.reduceSub, EE.down]
  obtain ⟨t1, ht1, h⟩ := Option.bind_eq_some_iff.1 h
  refine callX_n [] (F43_ok ht1) ?_ ?_ ?_ ?_ ?_ ?_
  · first | rfl | simp [nrmA, nrmC, nrm, A1.ren, C.ren, rn, List.length_set]
  · simp [liveAll, A1.live, C.live]
  · rfl
  · decide
  · exact trivial
  simp only [VW.down, Nat.reduceEqDiff, reduceCtorEq, Nat.reduceAdd, Nat.reduceLeDiff, Nat.reduceLT, Nat.reduceBEq, Nat.reduceSub, EE.down]
  obtain ⟨o2, ho, h⟩ := Option.bind_eq_some_iff.1 h
  refine cutS (fun s => s = ⟨[(3, .one (.c (.d (.v (.bool o2)))))], [some (.box [.d (.sl (b0.map eNode))])]⟩) ?_ ?_
  · have h := ho
    clear ho
    simp only [VW.down, Nat.reduceEqDiff, reduceCtorEq, Nat.reduceAdd, Nat.reduceLeDiff, Nat.reduceLT, Nat.reduceBEq, Nat.reduceSub, EE.down]
    refine guardS (fun g3 => ?_) (fun g3 => ?_)
    · have h := (if_pos g3).symm.trans h
      simp only [VW.down, Nat.reduceEqDiff, reduceCtorEq, Nat.reduceAdd, Nat.reduceLeDiff, Nat.reduceLT, Nat.reduceBEq, Nat.reduceSub, EE.down]
      obtain rfl := Option.some.inj h
      exact eM [some 0] rfl
    · have h := (if_neg g3).symm.trans h
      simp only [VW.down, Nat.reduceEqDiff, reduceCtorEq, Nat.reduceAdd, Nat.reduceLeDiff, Nat.reduceLT, Nat.reduceBEq, Nat.reduceSub, EE.down]
      obtain rfl := Option.some.inj h
      exact eM [some 0] rfl
  · rintro _ rfl
    clear ho
    simp only [VW.down, Nat.reduceEqDiff, reduceCtorEq, Nat.reduceAdd, Nat.reduceLeDiff, Nat.reduceLT, Nat.reduceBEq, Nat.reduceSub, EE.down]
    obtain rfl := Option.some.inj h
    exact eF [some 0]

/- orchestrator/nodelife.chosen -/
def F34v1_l1 (b0 : (List Node)) : List Pod → Nat → (List ByteArray) → Option ((List ByteArray))
  | [], o1_1, o1_0 => some o1_0
  | xo1 :: xs, o1_1, o1_0 => (((F42 xo1 b0).bind fun t4 => (if t4 = true then (F19 xo1.Meta).bind fun t6 => (apI o1_0 ([t6])).bind fun a7 => some a7 else some o1_0)).bind fun o3 => F34v1_l1 b0 xs (o1_1 + 1) o3)
def F34v1 (x0 : (List Pod)) (b0 : (List Node)) : Option ((List ByteArray)) := (((ck (0 ≤ x0.length ∧ x0.length ≤ 4294967290)).bind fun u8 => F34v1_l1 b0 x0 0 ([])).bind fun o1 => (sortI o1).bind fun t9 => (compI t9).bind fun t10 => some t10)
def a34v1 : AFn := ⟨28, [(.tmp 4)],
 (.seq (.reg [⟨(some 4), none, .mv kN, [], (.new [])⟩])
 (.seq (.reg [⟨(some 5), none, .mv kN, [], (.new [])⟩])
 (.seq (.seq (.reg [⟨(some 8), none, .mv (.t 0), [], (.new [])⟩,
   ⟨(some 9), none, .len (.t 8), [], (.new [])⟩,
   ⟨(some 10), none, .mv (kI 0), [], (.new [])⟩])
 (.sem (.block 0 (.loop (.seq (.reg [⟨(some 11), none, .bin .lss (.t 10) (.t 9), [], (.new [])⟩])
 (.seq (.cond (.t 11)
 .skip
 (.exit 0))
 (.seq (.sem (.block 1 (.seq (.reg [⟨(some 12), none, .indexA 32 (.t 8) (.t 10), [], (.new [])⟩,
   ⟨(some 13), none, .load (some 32) (.t 12), [], (.new [])⟩,
   ⟨(some 7), none, .zbox [.d (.v (.string ⟨#[]⟩)), .d (.v (.string ⟨#[]⟩)), .d (.v (.string ⟨#[]⟩)), .d (.v (.int .i64 0)), .d (.v (.int .i64 0)), .d (.v (.int .i64 0)), .d (.v (.int .i64 0)), .d (.v (.bool false)), .d (.v (.int .i64 0)), .d (.v (.slice none 0 0)), .d (.v (.slice none 0 0)), .d (.v (.slice none 0 0)), .d (.v (.slice none 0 0)), .d (.v (.string ⟨#[]⟩)), .d (.v (.int .i64 0)), .d (.v (.int .i64 0)), .d (.v (.int .i64 0)), .d (.v (.slice none 0 0)), .d (.v (.slice none 0 0)), .d (.v (.slice none 0 0)), .d (.v (.slice none 0 0)), .d (.v (.slice none 0 0)), .d (.v (.slice none 0 0)), .d (.v (.int .i64 0)), .d (.v (.bool false)), .d (.v (.int .i64 0)), .d (.v (.int .i64 0)), .d (.v (.int .i64 0)), .d (.v (.slice none 0 0)), .d (.v (.int .i64 0)), .d (.v (.string ⟨#[]⟩)), .d (.v (.string ⟨#[]⟩))], [], (.new [])⟩,
   ⟨none, none, .store 32 (.t 7) (.t 13), [], (.new [])⟩])
 (.seq (.reg [⟨(some 14), none, .mv (.t 1), [], (.new [])⟩,
   ⟨(some 15), none, .load (some 32) (.t 7), [], (.new [])⟩,
   ⟨(some 16), none, .callv (.t 14) [(.t 15)], [], (.lone [7])⟩])
 (.cond (.t 16)
 (.reg [⟨(some 17), none, .mv (.t 5), [], (.new [])⟩,
   ⟨(some 18), none, .fieldA 0 (.t 7), [], (.new [])⟩,
   ⟨(some 19), none, .load (some 13) (.t 18), [], (.new [])⟩,
   ⟨(some 20), none, .call 19 [(.t 19)], [], (.new [])⟩,
   ⟨(some 21), none, .bslice 1 [(.t 20)], [], (.new [])⟩,
   ⟨(some 22), none, .app 1 16 (.t 17) (.t 21), [], (.new [])⟩,
   ⟨(some 5), none, .mv (.t 22), [], (.new [])⟩])
 .skip)))))
 (.reg [⟨(some 23), none, .bin .add (.t 10) (kI 1), [], (.new [])⟩,
   ⟨(some 10), none, .mv (.t 23), [], (.new [])⟩]))))))))
 (.seq (.reg [⟨(some 24), none, .mv (.t 5), [], (.new [])⟩,
   ⟨(some 25), none, .call 57 [(.t 24)], [], (.lone [])⟩])
 (.seq (.reg [⟨(some 26), none, .mv (.t 5), [], (.new [])⟩,
   ⟨(some 27), none, .call 58 [(.t 26)], [], (.new [])⟩,
   ⟨(some 4), none, .mv (.t 27), [], (.new [])⟩])
 .ret)))))⟩
theorem a34v1_ok : afn Try.prog 34 = some a34v1.er := by kernel_rfl
theorem F34v1_ok {x0 : (List Pod)} {b0 : (List Node)} {r : (List ByteArray)} (h : F34v1 x0 b0 = some r) : CallD Try.prog 34 [.c (.d (.sl (x0.map ePod))), .c (.fn 42 [(0, 0)])] [some (.box [.d (.sl (b0.map eNode))])] (tupV [.c (.own 1 0 0 (r.length) none)]) [some (.box [.d (.sl (b0.map eNode))]), some (.arr 0 1 (r.map eS))] := by
  refine callS a34v1_ok (by simp [a34v1]) ?_
  rw [F34v1] at h
  simp only [a34v1, VW.down, Nat.reduceEqDiff, reduceCtorEq, Nat.reduceAdd, Nat.reduceLeDiff, Nat.reduceLT, Nat.reduceBEq, Nat.reduceSub, EE.down]
  obtain ⟨o1, ho, h⟩ := Option.bind_eq_some_iff.1 h
  refine cutS (fun s => s = ⟨[(5, .one (.c (.own 1 0 0 (o1.length) none)))], [some (.box [.d (.sl (b0.map eNode))]), some (.arr 0 1 (o1.map eS))]⟩) ?_ ?_
  · have h := ho
    clear ho
    obtain ⟨_, hk, h⟩ := Option.bind_eq_some_iff.1 h
    have hk := ck_some hk
    simp only [VW.down, Nat.reduceEqDiff, reduceCtorEq, Nat.reduceAdd, Nat.reduceLeDiff, Nat.reduceLT, Nat.reduceBEq, Nat.reduceSub, EE.down]
    refine bL (fun j s => ∃ (o1_1 : Nat) (o1_0 : List ByteArray), (o1_1 ≤ x0.length ∧ j = x0.length - o1_1) ∧ s = ⟨[(1, .one (.c (.fn 42 [(0, 0)]))), (5, .one (.c (.own 1 0 0 (o1_0.length) none))), (8, .one (.c (.d (.sl (x0.map ePod))))), (9, .one (.c (.d (.v (.int .i64 ((x0.length : Int))))))), (10, .one (.c (.d (.v (.int .i64 ((o1_1 : Int)))))))], [some (.box [.d (.sl (b0.map eNode))]), some (.arr 0 1 (o1_0.map eS))]⟩ ∧ F34v1_l1 b0 (x0.drop o1_1) o1_1 o1_0 = some o1) (x0.length - 0) [some 0, none] ⟨0, [], ⟨hk.1, rfl⟩, rfl, h⟩ ?_
    rintro _ _ ⟨o1_1, o1_0, ⟨hi, rfl⟩, rfl, h⟩
    simp only [VW.down, Nat.reduceEqDiff, reduceCtorEq, Nat.reduceAdd, Nat.reduceLeDiff, Nat.reduceLT, Nat.reduceBEq, Nat.reduceSub, EE.down]
    refine condS (fun c2 => ?_) (fun c2 => ?_)
    · obtain ⟨xo1, hxo1, hd⟩ := countY (show (o1_1 : Int) < (x0.length : Int) from c2)
      rw [hd, F34v1_l1] at h
      simp only [VW.down, Nat.reduceEqDiff, reduceCtorEq, Nat.reduceAdd, Nat.reduceLeDiff, Nat.reduceLT, Nat.reduceBEq, Nat.reduceSub, EE.down]
      obtain ⟨o3, ho, h⟩ := Option.bind_eq_some_iff.1 h
      refine cutS (fun s => s = ⟨[(1, .one (.c (.fn 42 [(0, 0)]))), (5, .one (.c (.own 1 0 0 (o3.length) none))), (8, .one (.c (.d (.sl (x0.map ePod))))), (9, .one (.c (.d (.v (.int .i64 ((x0.length : Int))))))), (10, .one (.c (.d (.v (.int .i64 ((o1_1 : Int)))))))], [some (.box [.d (.sl (b0.map eNode))]), some (.arr 0 1 (o3.map eS))]⟩) ?_ ?_
      · have h := ho
        clear ho
        simp only [VW.down, Nat.reduceEqDiff, reduceCtorEq, Nat.reduceAdd, Nat.reduceLeDiff, Nat.reduceLT, Nat.reduceBEq, Nat.reduceSub, EE.down]
        refine t_idxF (enc := ePod) (xs := x0) rfl rfl hxo1 rfl ?_
        simp only [VW.down, Nat.reduceEqDiff, reduceCtorEq, Nat.reduceAdd, Nat.reduceLeDiff, Nat.reduceLT, Nat.reduceBEq, Nat.reduceSub, EE.down]
        obtain ⟨t4, ht4, h⟩ := Option.bind_eq_some_iff.1 h
        refine callX_n [0] (F42_ok ht4) ?_ ?_ ?_ ?_ ?_ ?_
        · first | rfl | simp [nrmA, nrmC, nrm, A1.ren, C.ren, rn, List.length_set]
        · simp [liveAll, A1.live, C.live, hp]
        · rfl
        · decide
        · exact ⟨⟨rfl, by simp [Blk.live, C.live, hp]⟩, trivial⟩
        simp only [VW.down, Nat.reduceEqDiff, reduceCtorEq, Nat.reduceAdd, Nat.reduceLeDiff, Nat.reduceLT, Nat.reduceBEq, Nat.reduceSub, EE.down]
        refine condB (fun c5 => ?_) (fun c5 => ?_)
        · have h := (if_pos c5).symm.trans h
          simp only [VW.down, Nat.reduceEqDiff, reduceCtorEq, Nat.reduceAdd, Nat.reduceLeDiff, Nat.reduceLT, Nat.reduceBEq, Nat.reduceSub, EE.down]
          obtain ⟨t6, ht6, h⟩ := Option.bind_eq_some_iff.1 h
          refine callX_n [] (F19_ok ht6) ?_ ?_ ?_ ?_ ?_ ?_
          · first | rfl | simp [nrmA, nrmC, nrm, A1.ren, C.ren, rn, List.length_set]
          · simp [liveAll, A1.live, C.live]
          · rfl
          · decide
          · exact trivial
          simp only [VW.down, Nat.reduceEqDiff, reduceCtorEq, Nat.reduceAdd, Nat.reduceLeDiff, Nat.reduceLT, Nat.reduceBEq, Nat.reduceSub, EE.down]
          refine t_bslice (enc := eS) (ys := [t6]) rfl rfl (by simp [A1.cells]) (by first | rfl | (simp only [List.drop_zero, take_mapL]; rfl)) ?_
          simp only [VW.down, Nat.reduceEqDiff, reduceCtorEq, Nat.reduceAdd, Nat.reduceLeDiff, Nat.reduceLT, Nat.reduceBEq, Nat.reduceSub, EE.down]
          obtain ⟨a7, ha7, h⟩ := Option.bind_eq_some_iff.1 h
          refine t_app (enc := eS) (xs := o1_0) rfl rfl (by first | rfl | simp only [List.length_set] | exact (clrL_len (slI_len (by assumption))).symm) rfl (rows_full (enc := eS) (by first | rfl | simp only [List.length_set] | exact (clrL_len (slI_len (by assumption))).symm) rfl) ha7 ?_
          simp only [VW.down, Nat.reduceEqDiff, reduceCtorEq, Nat.reduceAdd, Nat.reduceLeDiff, Nat.reduceLT, Nat.reduceBEq, Nat.reduceSub, EE.down]
          obtain rfl := Option.some.inj h
          exact eM [some 0, some 1] rfl
        · have h := (if_neg c5).symm.trans h
          simp only [VW.down, Nat.reduceEqDiff, reduceCtorEq, Nat.reduceAdd, Nat.reduceLeDiff, Nat.reduceLT, Nat.reduceBEq, Nat.reduceSub, EE.down]
          obtain rfl := Option.some.inj h
          exact eM [some 0, some 1] rfl
      · rintro _ rfl
        clear ho
        simp only [VW.down, Nat.reduceEqDiff, reduceCtorEq, Nat.reduceAdd, Nat.reduceLeDiff, Nat.reduceLT, Nat.reduceBEq, Nat.reduceSub, EE.down]
        rw [wrapN (by omega)]
        exact eL' (x0.length - (o1_1 + 1)) [some 0, some 1] ⟨o1_1 + 1, o3, ⟨by omega, rfl⟩, rfl, h⟩ (by omega)
    · rw [countN (show ¬ ((o1_1 : Int) < (x0.length : Int)) from c2), F34v1_l1] at h
      simp only [VW.down, Nat.reduceEqDiff, reduceCtorEq, Nat.reduceAdd, Nat.reduceLeDiff, Nat.reduceLT, Nat.reduceBEq, Nat.reduceSub, EE.down]
      obtain rfl := Option.some.inj h
      exact eM [some 0, some 1] rfl
  · rintro _ rfl
    clear ho
    simp only [VW.down, Nat.reduceEqDiff, reduceCtorEq, Nat.reduceAdd, Nat.reduceLeDiff, Nat.reduceLT, Nat.reduceBEq, Nat.reduceSub, EE.down]
    obtain ⟨t9, ht9, h⟩ := Option.bind_eq_some_iff.1 h
    refine callX_n [1] (F57_ok (e0 := 0) ht9) ?_ ?_ ?_ ?_ ?_ ?_
    · first | rfl | simp [nrmA, nrmC, nrm, A1.ren, C.ren, rn, List.length_set]
    · simp [liveAll, A1.live, C.live, hp]
    · rfl
    · decide
    · exact ⟨⟨rfl, trivial⟩, trivial⟩
    try rw [← sortI_len ht9]
    simp only [VW.down, Nat.reduceEqDiff, reduceCtorEq, Nat.reduceAdd, Nat.reduceLeDiff, Nat.reduceLT, Nat.reduceBEq, Nat.reduceSub, EE.down]
    obtain ⟨t10, ht10, h⟩ := Option.bind_eq_some_iff.1 h
    refine callX_n [1] (F58_ok (e0 := 0) ht10) ?_ ?_ ?_ ?_ ?_ ?_
    · first | rfl | simp [nrmA, nrmC, nrm, A1.ren, C.ren, rn, List.length_set]
    · simp [liveAll, A1.live, C.live, hp]
    · rfl
    · decide
    · exact ⟨⟨rfl, trivial⟩, trivial⟩
    simp only [VW.down, Nat.reduceEqDiff, reduceCtorEq, Nat.reduceAdd, Nat.reduceLeDiff, Nat.reduceLT, Nat.reduceBEq, Nat.reduceSub, EE.down]
    obtain rfl := Option.some.inj h
    exact eF [some 0, some 1]

/- orchestrator/nodelife.Gone -/
def F15 (x0 : (List Node)) (x1 : (List Pod)) : Option ((List ByteArray)) := (F34v1 x1 x0).bind fun t1 => some t1
def a15 : AFn := ⟨8, [(.tmp 4)],
 (.seq (.reg [⟨(some 2), none, .box (.t 0), [], (.new [])⟩,
   ⟨(some 4), none, .mv kN, [], (.new [])⟩])
 (.seq (.reg [⟨(some 5), none, .mv (.t 1), [], (.new [])⟩,
   ⟨(some 6), none, .fn 42 [(.t 2)], [], (.new [])⟩,
   ⟨(some 7), none, .call 34 [(.t 5), (.t 6)], [], (.new [])⟩,
   ⟨(some 4), none, .mv (.t 7), [], (.new [])⟩])
 .ret))⟩
theorem a15_ok : afn Try.prog 15 = some a15.er := by kernel_rfl
theorem F15_ok {x0 : (List Node)} {x1 : (List Pod)} {r : (List ByteArray)} (h : F15 x0 x1 = some r) : CallD Try.prog 15 [.c (.d (.sl (x0.map eNode))), .c (.d (.sl (x1.map ePod)))] [] (tupV [.c (.own 0 0 0 (r.length) none)]) [some (.arr 0 1 (r.map eS))] := by
  refine callS a15_ok (by simp [a15]) ?_
  rw [F15] at h
  simp only [a15, VW.down, Nat.reduceEqDiff, reduceCtorEq, Nat.reduceAdd, Nat.reduceLeDiff, Nat.reduceLT, Nat.reduceBEq, Nat.reduceSub, EE.down]
  obtain ⟨t1, ht1, h⟩ := Option.bind_eq_some_iff.1 h
  refine callX_n [0] (F34v1_ok ht1) ?_ ?_ ?_ ?_ ?_ ?_
  · first | rfl | simp [nrmA, nrmC, nrm, A1.ren, C.ren, rn, List.length_set]
  · simp [liveAll, A1.live, C.live, hp]
  · rfl
  · decide
  · exact ⟨⟨rfl, by simp [Blk.live, C.live, hp]⟩, trivial⟩
  simp only [VW.down, Nat.reduceEqDiff, reduceCtorEq, Nat.reduceAdd, Nat.reduceLeDiff, Nat.reduceLT, Nat.reduceBEq, Nat.reduceSub, EE.down]
  obtain rfl := Option.some.inj h
  exact eF [some 1]

/- orchestrator/orchestratorlaw54.lives -/
def F7  : Option (Bool) := (F9 ((⟨(⟨(⟨#[78, 111, 100, 101]⟩ : ByteArray), (⟨#[]⟩ : ByteArray), (⟨#[110]⟩ : ByteArray), 0, 0, 0, 0, false, 0, [], [], [], []⟩ : Meta), (⟨0, 0, 0⟩ : Resources), 0, false, [], false, 100, false, false, []⟩ : Node)) 140 40).bind fun t1 => (F9 ((⟨(⟨(⟨#[78, 111, 100, 101]⟩ : ByteArray), (⟨#[]⟩ : ByteArray), (⟨#[110]⟩ : ByteArray), 0, 0, 0, 0, false, 0, [], [], [], []⟩ : Meta), (⟨0, 0, 0⟩ : Resources), 0, false, [], false, 100, false, false, []⟩ : Node)) 141 40).bind fun t2 => ((some (())).bind fun o3 => (F13 ([(⟨(⟨((⟨#[78, 111, 100, 101]⟩ : ByteArray)), ((⟨#[]⟩ : ByteArray)), ((⟨#[110]⟩ : ByteArray)), (0 : Int), (0 : Int), (0 : Int), (0 : Int), false, (0 : Int), t2.1, t2.2.1, t2.2.2.1, t2.2.2.2.1⟩ : Meta), (⟨(0 : Int), (0 : Int), (0 : Int)⟩ : Resources), (0 : Int), false, t2.2.2.2.2.1, decide (¬ ((if 1000000000000 < (if (40 : Int) < 0 then 0 else (40 : Int)) then 1000000000000 else (if (40 : Int) < 0 then 0 else (40 : Int))) < (IntKind.i64.wrap (((if 1000000000000 < (if (141 : Int) < 0 then 0 else (141 : Int)) then 1000000000000 else (if (141 : Int) < 0 then 0 else (141 : Int)))) - ((if 1000000000000 < (if (100 : Int) < 0 then 0 else (100 : Int)) then 1000000000000 else (if (100 : Int) < 0 then 0 else (100 : Int)))))))), (100 : Int), false, false, t2.2.2.2.2.2⟩ : Node), (⟨(⟨(⟨#[]⟩ : ByteArray), (⟨#[]⟩ : ByteArray), (⟨#[109]⟩ : ByteArray), 0, 0, 0, 0, false, 0, [], [], [], []⟩ : Meta), (⟨0, 0, 0⟩ : Resources), 0, false, [], true, 0, false, false, []⟩ : Node)]) ([(⟨(⟨(⟨#[80, 111, 100]⟩ : ByteArray), (⟨#[120]⟩ : ByteArray), (⟨#[112]⟩ : ByteArray), 0, 0, 0, 0, false, 0, [], [], [], []⟩ : Meta), (⟨(⟨#[110]⟩ : ByteArray), 0, 0, 0, [], [], [], [], [], [(⟨(⟨#[110, 111, 100, 101, 45, 110, 111, 116, 45, 114, 101, 97, 100, 121]⟩ : ByteArray), (⟨#[]⟩ : ByteArray), true, 0, 300⟩ : Toleration)]⟩ : PodSpec), (⟨0, false, 0, 0, 0, [], 0, (⟨#[]⟩ : ByteArray), (⟨#[]⟩ : ByteArray)⟩ : PodStatus)⟩ : Pod)]) 440).bind fun t4 => (F13 ([(⟨(⟨((⟨#[78, 111, 100, 101]⟩ : ByteArray)), ((⟨#[]⟩ : ByteArray)), ((⟨#[110]⟩ : ByteArray)), (0 : Int), (0 : Int), (0 : Int), (0 : Int), false, (0 : Int), t2.1, t2.2.1, t2.2.2.1, t2.2.2.2.1⟩ : Meta), (⟨(0 : Int), (0 : Int), (0 : Int)⟩ : Resources), (0 : Int), false, t2.2.2.2.2.1, decide (¬ ((if 1000000000000 < (if (40 : Int) < 0 then 0 else (40 : Int)) then 1000000000000 else (if (40 : Int) < 0 then 0 else (40 : Int))) < (IntKind.i64.wrap (((if 1000000000000 < (if (141 : Int) < 0 then 0 else (141 : Int)) then 1000000000000 else (if (141 : Int) < 0 then 0 else (141 : Int)))) - ((if 1000000000000 < (if (100 : Int) < 0 then 0 else (100 : Int)) then 1000000000000 else (if (100 : Int) < 0 then 0 else (100 : Int)))))))), (100 : Int), false, false, t2.2.2.2.2.2⟩ : Node), (⟨(⟨(⟨#[]⟩ : ByteArray), (⟨#[]⟩ : ByteArray), (⟨#[109]⟩ : ByteArray), 0, 0, 0, 0, false, 0, [], [], [], []⟩ : Meta), (⟨0, 0, 0⟩ : Resources), 0, false, [], true, 0, false, false, []⟩ : Node)]) ([(⟨(⟨(⟨#[80, 111, 100]⟩ : ByteArray), (⟨#[120]⟩ : ByteArray), (⟨#[112]⟩ : ByteArray), 0, 0, 0, 0, false, 0, [], [], [], []⟩ : Meta), (⟨(⟨#[110]⟩ : ByteArray), 0, 0, 0, [], [], [], [], [], [(⟨(⟨#[110, 111, 100, 101, 45, 110, 111, 116, 45, 114, 101, 97, 100, 121]⟩ : ByteArray), (⟨#[]⟩ : ByteArray), true, 0, 300⟩ : Toleration)]⟩ : PodSpec), (⟨0, false, 0, 0, 0, [], 0, (⟨#[]⟩ : ByteArray), (⟨#[]⟩ : ByteArray)⟩ : PodStatus)⟩ : Pod)]) 441).bind fun t5 => (F15 ([(⟨(⟨(⟨#[]⟩ : ByteArray), (⟨#[]⟩ : ByteArray), (⟨#[109]⟩ : ByteArray), 0, 0, 0, 0, false, 0, [], [], [], []⟩ : Meta), (⟨0, 0, 0⟩ : Resources), 0, false, [], true, 0, false, false, []⟩ : Node)]) ([(⟨(⟨(⟨#[80, 111, 100]⟩ : ByteArray), (⟨#[120]⟩ : ByteArray), (⟨#[112]⟩ : ByteArray), 0, 0, 0, 0, false, 0, [], [], [], []⟩ : Meta), (⟨(⟨#[110]⟩ : ByteArray), 0, 0, 0, [], [], [], [], [], [(⟨(⟨#[110, 111, 100, 101, 45, 110, 111, 116, 45, 114, 101, 97, 100, 121]⟩ : ByteArray), (⟨#[]⟩ : ByteArray), true, 0, 300⟩ : Toleration)]⟩ : PodSpec), (⟨0, false, 0, 0, 0, [], 0, (⟨#[]⟩ : ByteArray), (⟨#[]⟩ : ByteArray)⟩ : PodStatus)⟩ : Pod)])).bind fun t6 => (((if ¬ ((if 1000000000000 < (if (40 : Int) < 0 then 0 else (40 : Int)) then 1000000000000 else (if (40 : Int) < 0 then 0 else (40 : Int))) < (IntKind.i64.wrap (((if 1000000000000 < (if (140 : Int) < 0 then 0 else (140 : Int)) then 1000000000000 else (if (140 : Int) < 0 then 0 else (140 : Int)))) - ((if 1000000000000 < (if (100 : Int) < 0 then 0 else (100 : Int)) then 1000000000000 else (if (100 : Int) < 0 then 0 else (100 : Int))))))) then (if (t1.2.2.2.2.1.length : Int) = 0 then (if ¬ (¬ ((if 1000000000000 < (if (40 : Int) < 0 then 0 else (40 : Int)) then 1000000000000 else (if (40 : Int) < 0 then 0 else (40 : Int))) < (IntKind.i64.wrap (((if 1000000000000 < (if (141 : Int) < 0 then 0 else (141 : Int)) then 1000000000000 else (if (141 : Int) < 0 then 0 else (141 : Int)))) - ((if 1000000000000 < (if (100 : Int) < 0 then 0 else (100 : Int)) then 1000000000000 else (if (100 : Int) < 0 then 0 else (100 : Int)))))))) then (if (t2.2.2.2.2.1.length : Int) = 2 then (rdI t2.2.2.2.2.1 1).bind fun y12 => (if y12.Key = (⟨#[110, 111, 100, 101, 45, 110, 111, 116, 45, 114, 101, 97, 100, 121]⟩ : ByteArray) ∧ y12.Value = (⟨#[]⟩ : ByteArray) ∧ y12.Effect = 3 ∧ y12.Since = 141 then (if (t4.length : Int) = 0 then (if (t5.length : Int) = 1 then (rdI t5 0).bind fun y16 => (if y16 = (⟨#[80, 111, 100, 47, 120, 47, 112]⟩ : ByteArray) then (if (t6.length : Int) = 1 then (rdI t6 0).bind fun y19 => some (decide (y19 = (⟨#[80, 111, 100, 47, 120, 47, 112]⟩ : ByteArray))) else some false) else some false) else some false) else some false) else some false) else some false) else some false) else some false) else some false)).bind fun o7 => some o7))
def a7 : AFn := ⟨93, [(.tmp 0)],
 (.seq (.reg [⟨(some 0), none, .mv (kB false), [], (.new [])⟩])
 (.seq (.reg [⟨(some 9), none, .build [.d (.v (.string ⟨#[]⟩)), .d (.v (.string ⟨#[]⟩)), .d (.v (.string ⟨#[]⟩)), .d (.v (.int .i64 0)), .d (.v (.int .i64 0)), .d (.v (.int .i64 0)), .d (.v (.int .i64 0)), .d (.v (.bool false)), .d (.v (.int .i64 0)), .d (.v (.slice none 0 0)), .d (.v (.slice none 0 0)), .d (.v (.slice none 0 0)), .d (.v (.slice none 0 0))] [(0, 1, (kS ⟨#[78, 111, 100, 101]⟩)), (2, 1, (kS ⟨#[110]⟩))], [], (.new [])⟩,
   ⟨(some 10), none, .build [.d (.v (.string ⟨#[]⟩)), .d (.v (.string ⟨#[]⟩)), .d (.v (.string ⟨#[]⟩)), .d (.v (.int .i64 0)), .d (.v (.int .i64 0)), .d (.v (.int .i64 0)), .d (.v (.int .i64 0)), .d (.v (.bool false)), .d (.v (.int .i64 0)), .d (.v (.slice none 0 0)), .d (.v (.slice none 0 0)), .d (.v (.slice none 0 0)), .d (.v (.slice none 0 0)), .d (.v (.int .i64 0)), .d (.v (.int .i64 0)), .d (.v (.int .i64 0)), .d (.v (.int .i64 0)), .d (.v (.bool false)), .d (.v (.slice none 0 0)), .d (.v (.bool false)), .d (.v (.int .i64 0)), .d (.v (.bool false)), .d (.v (.bool false)), .d (.v (.slice none 0 0))] [(0, 13, (.t 9)), (20, 1, (kI 100))], [], (.new [])⟩,
   ⟨(some 1), none, .zbox [.d (.v (.string ⟨#[]⟩)), .d (.v (.string ⟨#[]⟩)), .d (.v (.string ⟨#[]⟩)), .d (.v (.int .i64 0)), .d (.v (.int .i64 0)), .d (.v (.int .i64 0)), .d (.v (.int .i64 0)), .d (.v (.bool false)), .d (.v (.int .i64 0)), .d (.v (.slice none 0 0)), .d (.v (.slice none 0 0)), .d (.v (.slice none 0 0)), .d (.v (.slice none 0 0)), .d (.v (.int .i64 0)), .d (.v (.int .i64 0)), .d (.v (.int .i64 0)), .d (.v (.int .i64 0)), .d (.v (.bool false)), .d (.v (.slice none 0 0)), .d (.v (.bool false)), .d (.v (.int .i64 0)), .d (.v (.bool false)), .d (.v (.bool false)), .d (.v (.slice none 0 0))], [], (.new [])⟩,
   ⟨none, none, .store 24 (.t 1) (.t 10), [], (.new [])⟩])
 (.seq (.regd [⟨(some 11), none, .load (some 24) (.t 1), [], (.new [])⟩,
   ⟨(some 12), none, .call 9 [(.t 11), (kI 140), (kI 40)], [0], (.new [0])⟩,
   ⟨(some 13), none, .load (some 24) (.t 1), [], (.new [])⟩,
   ⟨(some 14), none, .call 9 [(.t 13), (kI 141), (kI 40)], [0, 1, 2], (.new [0, 1, 2])⟩,
   ⟨(some 2), none, .zbox [.d (.v (.string ⟨#[]⟩)), .d (.v (.string ⟨#[]⟩)), .d (.v (.string ⟨#[]⟩)), .d (.v (.int .i64 0)), .d (.v (.int .i64 0)), .d (.v (.int .i64 0)), .d (.v (.int .i64 0)), .d (.v (.bool false)), .d (.v (.int .i64 0)), .d (.v (.slice none 0 0)), .d (.v (.slice none 0 0)), .d (.v (.slice none 0 0)), .d (.v (.slice none 0 0)), .d (.v (.int .i64 0)), .d (.v (.int .i64 0)), .d (.v (.int .i64 0)), .d (.v (.int .i64 0)), .d (.v (.bool false)), .d (.v (.slice none 0 0)), .d (.v (.bool false)), .d (.v (.int .i64 0)), .d (.v (.bool false)), .d (.v (.bool false)), .d (.v (.slice none 0 0))], [], (.new [])⟩,
   ⟨(some 3), none, .zbox [.d (.v (.string ⟨#[]⟩)), .d (.v (.string ⟨#[]⟩)), .d (.v (.string ⟨#[]⟩)), .d (.v (.int .i64 0)), .d (.v (.int .i64 0)), .d (.v (.int .i64 0)), .d (.v (.int .i64 0)), .d (.v (.bool false)), .d (.v (.int .i64 0)), .d (.v (.slice none 0 0)), .d (.v (.slice none 0 0)), .d (.v (.slice none 0 0)), .d (.v (.slice none 0 0)), .d (.v (.int .i64 0)), .d (.v (.int .i64 0)), .d (.v (.int .i64 0)), .d (.v (.int .i64 0)), .d (.v (.bool false)), .d (.v (.slice none 0 0)), .d (.v (.bool false)), .d (.v (.int .i64 0)), .d (.v (.bool false)), .d (.v (.bool false)), .d (.v (.slice none 0 0))], [], (.new [])⟩,
   ⟨none, none, .store 24 (.t 2) (.t 12), [0, 1, 2, 3, 4, 5], (.lone [])⟩,
   ⟨none, none, .store 24 (.t 3) (.t 14), [0, 1, 2, 3, 4, 5, 6], (.lone [])⟩])
 (.seq (.reg [⟨(some 15), none, .build [.d (.v (.string ⟨#[]⟩)), .d (.v (.string ⟨#[]⟩)), .d (.v (.string ⟨#[]⟩)), .d (.v (.int .i64 0)), .d (.v (.int .i64 0)), .d (.v (.int .i64 0)), .d (.v (.int .i64 0)), .d (.v (.bool false)), .d (.v (.int .i64 0)), .d (.v (.slice none 0 0)), .d (.v (.slice none 0 0)), .d (.v (.slice none 0 0)), .d (.v (.slice none 0 0))] [(0, 1, (kS ⟨#[80, 111, 100]⟩)), (1, 1, (kS ⟨#[120]⟩)), (2, 1, (kS ⟨#[112]⟩))], [], (.new [])⟩,
   ⟨(some 16), none, .build [.d (.v (.string ⟨#[]⟩)), .d (.v (.string ⟨#[]⟩)), .d (.v (.bool false)), .d (.v (.int .i64 0)), .d (.v (.int .i64 0))] [(0, 1, (kS ⟨#[110, 111, 100, 101, 45, 110, 111, 116, 45, 114, 101, 97, 100, 121]⟩)), (2, 1, (kB true)), (4, 1, (kI 300))], [], (.new [])⟩,
   ⟨(some 17), none, .bslice 5 [(.t 16)], [], (.new [])⟩,
   ⟨(some 18), none, .build [.d (.v (.string ⟨#[]⟩)), .d (.v (.int .i64 0)), .d (.v (.int .i64 0)), .d (.v (.int .i64 0)), .d (.v (.slice none 0 0)), .d (.v (.slice none 0 0)), .d (.v (.slice none 0 0)), .d (.v (.slice none 0 0)), .d (.v (.slice none 0 0)), .d (.v (.slice none 0 0))] [(0, 1, (kS ⟨#[110]⟩)), (9, 1, (.t 17))], [], (.new [])⟩,
   ⟨(some 19), none, .build [.d (.v (.string ⟨#[]⟩)), .d (.v (.string ⟨#[]⟩)), .d (.v (.string ⟨#[]⟩)), .d (.v (.int .i64 0)), .d (.v (.int .i64 0)), .d (.v (.int .i64 0)), .d (.v (.int .i64 0)), .d (.v (.bool false)), .d (.v (.int .i64 0)), .d (.v (.slice none 0 0)), .d (.v (.slice none 0 0)), .d (.v (.slice none 0 0)), .d (.v (.slice none 0 0)), .d (.v (.string ⟨#[]⟩)), .d (.v (.int .i64 0)), .d (.v (.int .i64 0)), .d (.v (.int .i64 0)), .d (.v (.slice none 0 0)), .d (.v (.slice none 0 0)), .d (.v (.slice none 0 0)), .d (.v (.slice none 0 0)), .d (.v (.slice none 0 0)), .d (.v (.slice none 0 0)), .d (.v (.int .i64 0)), .d (.v (.bool false)), .d (.v (.int .i64 0)), .d (.v (.int .i64 0)), .d (.v (.int .i64 0)), .d (.v (.slice none 0 0)), .d (.v (.int .i64 0)), .d (.v (.string ⟨#[]⟩)), .d (.v (.string ⟨#[]⟩))] [(0, 13, (.t 15)), (13, 10, (.t 18))], [], (.new [])⟩,
   ⟨(some 4), none, .zbox [.d (.v (.string ⟨#[]⟩)), .d (.v (.string ⟨#[]⟩)), .d (.v (.string ⟨#[]⟩)), .d (.v (.int .i64 0)), .d (.v (.int .i64 0)), .d (.v (.int .i64 0)), .d (.v (.int .i64 0)), .d (.v (.bool false)), .d (.v (.int .i64 0)), .d (.v (.slice none 0 0)), .d (.v (.slice none 0 0)), .d (.v (.slice none 0 0)), .d (.v (.slice none 0 0)), .d (.v (.string ⟨#[]⟩)), .d (.v (.int .i64 0)), .d (.v (.int .i64 0)), .d (.v (.int .i64 0)), .d (.v (.slice none 0 0)), .d (.v (.slice none 0 0)), .d (.v (.slice none 0 0)), .d (.v (.slice none 0 0)), .d (.v (.slice none 0 0)), .d (.v (.slice none 0 0)), .d (.v (.int .i64 0)), .d (.v (.bool false)), .d (.v (.int .i64 0)), .d (.v (.int .i64 0)), .d (.v (.int .i64 0)), .d (.v (.slice none 0 0)), .d (.v (.int .i64 0)), .d (.v (.string ⟨#[]⟩)), .d (.v (.string ⟨#[]⟩))], [], (.new [])⟩,
   ⟨none, none, .store 32 (.t 4) (.t 19), [], (.new [])⟩])
 (.seq (.sem (.reg [⟨(some 20), none, .build [.d (.v (.string ⟨#[]⟩)), .d (.v (.string ⟨#[]⟩)), .d (.v (.string ⟨#[]⟩)), .d (.v (.int .i64 0)), .d (.v (.int .i64 0)), .d (.v (.int .i64 0)), .d (.v (.int .i64 0)), .d (.v (.bool false)), .d (.v (.int .i64 0)), .d (.v (.slice none 0 0)), .d (.v (.slice none 0 0)), .d (.v (.slice none 0 0)), .d (.v (.slice none 0 0))] [(2, 1, (kS ⟨#[109]⟩))], [], (.new [])⟩,
   ⟨(some 21), none, .build [.d (.v (.string ⟨#[]⟩)), .d (.v (.string ⟨#[]⟩)), .d (.v (.string ⟨#[]⟩)), .d (.v (.int .i64 0)), .d (.v (.int .i64 0)), .d (.v (.int .i64 0)), .d (.v (.int .i64 0)), .d (.v (.bool false)), .d (.v (.int .i64 0)), .d (.v (.slice none 0 0)), .d (.v (.slice none 0 0)), .d (.v (.slice none 0 0)), .d (.v (.slice none 0 0)), .d (.v (.int .i64 0)), .d (.v (.int .i64 0)), .d (.v (.int .i64 0)), .d (.v (.int .i64 0)), .d (.v (.bool false)), .d (.v (.slice none 0 0)), .d (.v (.bool false)), .d (.v (.int .i64 0)), .d (.v (.bool false)), .d (.v (.bool false)), .d (.v (.slice none 0 0))] [(0, 13, (.t 20)), (19, 1, (kB true))], [], (.new [])⟩,
   ⟨(some 5), none, .zbox [.d (.v (.string ⟨#[]⟩)), .d (.v (.string ⟨#[]⟩)), .d (.v (.string ⟨#[]⟩)), .d (.v (.int .i64 0)), .d (.v (.int .i64 0)), .d (.v (.int .i64 0)), .d (.v (.int .i64 0)), .d (.v (.bool false)), .d (.v (.int .i64 0)), .d (.v (.slice none 0 0)), .d (.v (.slice none 0 0)), .d (.v (.slice none 0 0)), .d (.v (.slice none 0 0)), .d (.v (.int .i64 0)), .d (.v (.int .i64 0)), .d (.v (.int .i64 0)), .d (.v (.int .i64 0)), .d (.v (.bool false)), .d (.v (.slice none 0 0)), .d (.v (.bool false)), .d (.v (.int .i64 0)), .d (.v (.bool false)), .d (.v (.bool false)), .d (.v (.slice none 0 0))], [], (.new [])⟩,
   ⟨none, none, .store 24 (.t 5) (.t 21), [], (.new [])⟩]))
 (.seq (.regd [⟨(some 22), none, .load (some 24) (.t 3), [], (.new [])⟩,
   ⟨(some 23), none, .load (some 24) (.t 5), [], (.new [])⟩,
   ⟨(some 24), none, .bslice 24 [(.t 22), (.t 23)], [0, 1], (.new [])⟩,
   ⟨(some 25), none, .load (some 32) (.t 4), [], (.new [])⟩,
   ⟨(some 26), none, .bslice 32 [(.t 25)], [3], (.new [])⟩,
   ⟨(some 27), none, .call 13 [(.t 24), (.t 26), (kI 440)], [0, 1, 2, 3, 4], (.new [0, 1, 2, 3, 4])⟩,
   ⟨(some 28), none, .load (some 24) (.t 3), [], (.new [])⟩,
   ⟨(some 29), none, .load (some 24) (.t 5), [], (.new [])⟩,
   ⟨(some 30), none, .bslice 24 [(.t 28), (.t 29)], [6, 7], (.new [])⟩,
   ⟨(some 31), none, .load (some 32) (.t 4), [], (.new [])⟩,
   ⟨(some 32), none, .bslice 32 [(.t 31)], [9], (.new [])⟩,
   ⟨(some 33), none, .call 13 [(.t 30), (.t 32), (kI 441)], [0, 1, 2, 3, 4, 5, 6, 7, 8, 9, 10], (.lone [])⟩,
   ⟨(some 6), none, .mv (.t 27), [0, 1, 2, 3, 4, 5, 6, 7, 8, 9, 10, 11], (.new [])⟩,
   ⟨(some 7), none, .mv (.t 33), [0, 1, 2, 3, 4, 5, 6, 7, 8, 9, 10, 11, 12], (.new [])⟩])
 (.seq (.reg [⟨(some 34), none, .load (some 24) (.t 5), [], (.new [])⟩,
   ⟨(some 35), none, .bslice 24 [(.t 34)], [], (.new [])⟩,
   ⟨(some 36), none, .load (some 32) (.t 4), [], (.new [])⟩,
   ⟨(some 37), none, .bslice 32 [(.t 36)], [], (.new [])⟩,
   ⟨(some 38), none, .call 15 [(.t 35), (.t 37)], [], (.new [])⟩,
   ⟨(some 8), none, .mv (.t 38), [], (.new [])⟩])
 (.seq (.sem (.reg [⟨(some 39), none, .fieldA 19 (.t 2), [], (.new [])⟩,
   ⟨(some 40), none, .load none (.t 39), [], (.new [])⟩,
   ⟨(some 41), none, .mv (.t 40), [], (.new [])⟩,
   ⟨(some 42), (some (41, true)), .fieldA 18 (.t 2), [], (.new [])⟩,
   ⟨(some 43), (some (41, true)), .load none (.t 42), [], (.new [])⟩,
   ⟨(some 44), (some (41, true)), .len (.t 43), [], (.new [])⟩,
   ⟨(some 45), (some (41, true)), .bin .eql (.t 44) (kI 0), [], (.new [])⟩,
   ⟨(some 46), none, .pick (.t 41) (.t 45) (kB false), [], (.new [])⟩,
   ⟨(some 47), none, .mv (.t 46), [], (.new [])⟩,
   ⟨(some 48), (some (47, true)), .fieldA 19 (.t 3), [], (.new [])⟩,
   ⟨(some 49), (some (47, true)), .load none (.t 48), [], (.new [])⟩,
   ⟨(some 50), (some (47, true)), .not (.t 49), [], (.new [])⟩,
   ⟨(some 51), none, .pick (.t 47) (.t 50) (kB false), [], (.new [])⟩,
   ⟨(some 52), none, .mv (.t 51), [], (.new [])⟩,
   ⟨(some 53), (some (52, true)), .fieldA 18 (.t 3), [], (.new [])⟩,
   ⟨(some 54), (some (52, true)), .load none (.t 53), [], (.new [])⟩,
   ⟨(some 55), (some (52, true)), .len (.t 54), [], (.new [])⟩,
   ⟨(some 56), (some (52, true)), .bin .eql (.t 55) (kI 2), [], (.new [])⟩,
   ⟨(some 57), none, .pick (.t 52) (.t 56) (kB false), [], (.new [])⟩,
   ⟨(some 58), none, .mv (.t 57), [], (.new [])⟩,
   ⟨(some 59), (some (58, true)), .fieldA 18 (.t 3), [], (.new [])⟩,
   ⟨(some 60), (some (58, true)), .load none (.t 59), [], (.new [])⟩,
   ⟨(some 61), (some (58, true)), .indexA 4 (.t 60) (kI 1), [], (.new [])⟩,
   ⟨(some 62), (some (58, true)), .load (some 4) (.t 61), [], (.new [])⟩,
   ⟨(some 63), (some (58, true)), .build [.d (.v (.string ⟨#[]⟩)), .d (.v (.string ⟨#[]⟩)), .d (.v (.int .i64 0)), .d (.v (.int .i64 0))] [(0, 1, (kS ⟨#[110, 111, 100, 101, 45, 110, 111, 116, 45, 114, 101, 97, 100, 121]⟩)), (2, 1, (kI 3)), (3, 1, (kI 141))], [], (.new [])⟩,
   ⟨(some 64), (some (58, true)), .eqs false [(0, 2), (1, 2), (2, 0), (3, 0)] (.t 62) (.t 63), [], (.new [])⟩,
   ⟨(some 65), none, .pick (.t 58) (.t 64) (kB false), [], (.new [])⟩,
   ⟨(some 66), none, .mv (.t 65), [], (.new [])⟩,
   ⟨(some 67), (some (66, true)), .mv (.t 6), [], (.new [])⟩,
   ⟨(some 68), (some (66, true)), .len (.t 67), [], (.new [])⟩,
   ⟨(some 69), (some (66, true)), .bin .eql (.t 68) (kI 0), [], (.new [])⟩,
   ⟨(some 70), none, .pick (.t 66) (.t 69) (kB false), [], (.new [])⟩,
   ⟨(some 71), none, .mv (.t 70), [], (.new [])⟩,
   ⟨(some 72), (some (71, true)), .mv (.t 7), [], (.new [])⟩,
   ⟨(some 73), (some (71, true)), .len (.t 72), [], (.new [])⟩,
   ⟨(some 74), (some (71, true)), .bin .eql (.t 73) (kI 1), [], (.new [])⟩,
   ⟨(some 75), none, .pick (.t 71) (.t 74) (kB false), [], (.new [])⟩,
   ⟨(some 76), none, .mv (.t 75), [], (.new [])⟩,
   ⟨(some 77), (some (76, true)), .mv (.t 7), [], (.new [])⟩,
   ⟨(some 78), (some (76, true)), .indexA 1 (.t 77) (kI 0), [], (.new [])⟩,
   ⟨(some 79), (some (76, true)), .load none (.t 78), [], (.new [])⟩,
   ⟨(some 80), (some (76, true)), .bin .eql (.t 79) (kS ⟨#[80, 111, 100, 47, 120, 47, 112]⟩), [], (.new [])⟩,
   ⟨(some 81), none, .pick (.t 76) (.t 80) (kB false), [], (.new [])⟩,
   ⟨(some 82), none, .mv (.t 81), [], (.new [])⟩,
   ⟨(some 83), (some (82, true)), .mv (.t 8), [], (.new [])⟩,
   ⟨(some 84), (some (82, true)), .len (.t 83), [], (.new [])⟩,
   ⟨(some 85), (some (82, true)), .bin .eql (.t 84) (kI 1), [], (.new [])⟩,
   ⟨(some 86), none, .pick (.t 82) (.t 85) (kB false), [], (.new [])⟩,
   ⟨(some 87), none, .mv (.t 86), [], (.new [])⟩,
   ⟨(some 88), (some (87, true)), .mv (.t 8), [], (.new [])⟩,
   ⟨(some 89), (some (87, true)), .indexA 1 (.t 88) (kI 0), [], (.new [])⟩,
   ⟨(some 90), (some (87, true)), .load none (.t 89), [], (.new [])⟩,
   ⟨(some 91), (some (87, true)), .bin .eql (.t 90) (kS ⟨#[80, 111, 100, 47, 120, 47, 112]⟩), [], (.new [])⟩,
   ⟨(some 92), none, .pick (.t 87) (.t 91) (kB false), [], (.new [])⟩,
   ⟨(some 0), none, .mv (.t 92), [], (.new [])⟩]))
 .ret))))))))⟩
theorem a7_ok : afn Try.prog 7 = some a7.er := by kernel_rfl
theorem F7_ok {r : Bool} (h : F7 = some r) : CallD Try.prog 7 [] [] (tupV [.c (.d (.v (.bool r)))]) [] := by
  refine callS a7_ok (by simp [a7]) ?_
  rw [F7] at h
  simp only [a7, VW.down, Nat.reduceEqDiff, reduceCtorEq, Nat.reduceAdd, Nat.reduceLeDiff, Nat.reduceLT, Nat.reduceBEq, Nat.reduceSub, EE.down]
  obtain ⟨t1, ht1, h⟩ := Option.bind_eq_some_iff.1 h
  refine callX_n [] (F9_ok ht1) ?_ ?_ ?_ ?_ ?_ ?_
  · first | rfl | simp [nrmA, nrmC, nrm, A1.ren, C.ren, rn, List.length_set]
  · simp [liveAll, A1.live, C.live]
  · rfl
  · decide
  · exact trivial
  simp only [VW.down, Nat.reduceEqDiff, reduceCtorEq, Nat.reduceAdd, Nat.reduceLeDiff, Nat.reduceLT, Nat.reduceBEq, Nat.reduceSub, EE.down]
  refine kD_new (by simp [wrs, allW, hset]) ?_
  simp only [VW.down, Nat.reduceEqDiff, reduceCtorEq, Nat.reduceAdd, Nat.reduceLeDiff, Nat.reduceLT, Nat.reduceBEq, Nat.reduceSub, EE.down]
  obtain ⟨t2, ht2, h⟩ := Option.bind_eq_some_iff.1 h
  refine callX_n [] (F9_ok ht2) ?_ ?_ ?_ ?_ ?_ ?_
  · first | rfl | simp [nrmA, nrmC, nrm, A1.ren, C.ren, rn, List.length_set]
  · simp [liveAll, A1.live, C.live]
  · rfl
  · decide
  · exact trivial
  simp only [VW.down, Nat.reduceEqDiff, reduceCtorEq, Nat.reduceAdd, Nat.reduceLeDiff, Nat.reduceLT, Nat.reduceBEq, Nat.reduceSub, EE.down]
  refine kD_new (by simp [wrs, allW, hset]) ?_
  simp only [VW.down, Nat.reduceEqDiff, reduceCtorEq, Nat.reduceAdd, Nat.reduceLeDiff, Nat.reduceLT, Nat.reduceBEq, Nat.reduceSub, EE.down]
  refine kD_new (by simp [wrs, allW, hset]) ?_
  simp only [VW.down, Nat.reduceEqDiff, reduceCtorEq, Nat.reduceAdd, Nat.reduceLeDiff, Nat.reduceLT, Nat.reduceBEq, Nat.reduceSub, EE.down]
  refine kD_new (by simp [wrs, allW, hset]) ?_
  simp only [VW.down, Nat.reduceEqDiff, reduceCtorEq, Nat.reduceAdd, Nat.reduceLeDiff, Nat.reduceLT, Nat.reduceBEq, Nat.reduceSub, EE.down]
  refine t_bslice (enc := eToleration) (ys := [(⟨(⟨#[110, 111, 100, 101, 45, 110, 111, 116, 45, 114, 101, 97, 100, 121]⟩ : ByteArray), (⟨#[]⟩ : ByteArray), true, 0, 300⟩ : Toleration)]) rfl rfl (by simp [A1.cells]) (by first | rfl | (simp only [List.drop_zero, take_mapL]; rfl)) ?_
  simp only [VW.down, Nat.reduceEqDiff, reduceCtorEq, Nat.reduceAdd, Nat.reduceLeDiff, Nat.reduceLT, Nat.reduceBEq, Nat.reduceSub, EE.down]
  obtain ⟨o3, ho, h⟩ := Option.bind_eq_some_iff.1 h
  refine cutS (fun s => s = ⟨[(2, .one (.c (.pt 0 0))), (3, .one (.c (.pt 1 0))), (4, .one (.c (.pt 2 0))), (5, .one (.c (.pt 3 0)))], [some (.box [.d (.v (.string (((⟨#[78, 111, 100, 101]⟩ : ByteArray))))), .d (.v (.string (((⟨#[]⟩ : ByteArray))))), .d (.v (.string (((⟨#[110]⟩ : ByteArray))))), .d (.v (.int .i64 ((0 : Int)))), .d (.v (.int .i64 ((0 : Int)))), .d (.v (.int .i64 ((0 : Int)))), .d (.v (.int .i64 ((0 : Int)))), .d (.v (.bool false)), .d (.v (.int .i64 ((0 : Int)))), .d (.sl (t1.1.map eLabel)), .d (.sl (t1.2.1.map eOwner)), .d (.sl (t1.2.2.1.map eS)), .d (.sl (t1.2.2.2.1.map eManager)), .d (.v (.int .i64 ((0 : Int)))), .d (.v (.int .i64 ((0 : Int)))), .d (.v (.int .i64 ((0 : Int)))), .d (.v (.int .i64 ((0 : Int)))), .d (.v (.bool false)), .d (.sl (t1.2.2.2.2.1.map eTaint)), .d (.v (.bool (decide (¬ ((if 1000000000000 < (if (40 : Int) < 0 then 0 else (40 : Int)) then 1000000000000 else (if (40 : Int) < 0 then 0 else (40 : Int))) < (IntKind.i64.wrap (((if 1000000000000 < (if (140 : Int) < 0 then 0 else (140 : Int)) then 1000000000000 else (if (140 : Int) < 0 then 0 else (140 : Int)))) - ((if 1000000000000 < (if (100 : Int) < 0 then 0 else (100 : Int)) then 1000000000000 else (if (100 : Int) < 0 then 0 else (100 : Int))))))))))), .d (.v (.int .i64 ((100 : Int)))), .d (.v (.bool false)), .d (.v (.bool false)), .d (.sl (t1.2.2.2.2.2.map eImage))]), some (.box [.d (.v (.string (((⟨#[78, 111, 100, 101]⟩ : ByteArray))))), .d (.v (.string (((⟨#[]⟩ : ByteArray))))), .d (.v (.string (((⟨#[110]⟩ : ByteArray))))), .d (.v (.int .i64 ((0 : Int)))), .d (.v (.int .i64 ((0 : Int)))), .d (.v (.int .i64 ((0 : Int)))), .d (.v (.int .i64 ((0 : Int)))), .d (.v (.bool false)), .d (.v (.int .i64 ((0 : Int)))), .d (.sl (t2.1.map eLabel)), .d (.sl (t2.2.1.map eOwner)), .d (.sl (t2.2.2.1.map eS)), .d (.sl (t2.2.2.2.1.map eManager)), .d (.v (.int .i64 ((0 : Int)))), .d (.v (.int .i64 ((0 : Int)))), .d (.v (.int .i64 ((0 : Int)))), .d (.v (.int .i64 ((0 : Int)))), .d (.v (.bool false)), .d (.sl (t2.2.2.2.2.1.map eTaint)), .d (.v (.bool (decide (¬ ((if 1000000000000 < (if (40 : Int) < 0 then 0 else (40 : Int)) then 1000000000000 else (if (40 : Int) < 0 then 0 else (40 : Int))) < (IntKind.i64.wrap (((if 1000000000000 < (if (141 : Int) < 0 then 0 else (141 : Int)) then 1000000000000 else (if (141 : Int) < 0 then 0 else (141 : Int)))) - ((if 1000000000000 < (if (100 : Int) < 0 then 0 else (100 : Int)) then 1000000000000 else (if (100 : Int) < 0 then 0 else (100 : Int))))))))))), .d (.v (.int .i64 ((100 : Int)))), .d (.v (.bool false)), .d (.v (.bool false)), .d (.sl (t2.2.2.2.2.2.map eImage))]), some (.box [.d (.v (.string ((⟨#[80, 111, 100]⟩ : ByteArray)))), .d (.v (.string ((⟨#[120]⟩ : ByteArray)))), .d (.v (.string ((⟨#[112]⟩ : ByteArray)))), .d (.v (.int .i64 0)), .d (.v (.int .i64 0)), .d (.v (.int .i64 0)), .d (.v (.int .i64 0)), .d (.v (.bool false)), .d (.v (.int .i64 0)), .d (.v (.slice none 0 0)), .d (.v (.slice none 0 0)), .d (.v (.slice none 0 0)), .d (.v (.slice none 0 0)), .d (.v (.string ((⟨#[110]⟩ : ByteArray)))), .d (.v (.int .i64 0)), .d (.v (.int .i64 0)), .d (.v (.int .i64 0)), .d (.v (.slice none 0 0)), .d (.v (.slice none 0 0)), .d (.v (.slice none 0 0)), .d (.v (.slice none 0 0)), .d (.v (.slice none 0 0)), .d (.sl (([(⟨(⟨#[110, 111, 100, 101, 45, 110, 111, 116, 45, 114, 101, 97, 100, 121]⟩ : ByteArray), (⟨#[]⟩ : ByteArray), true, 0, 300⟩ : Toleration)]).map eToleration)), .d (.v (.int .i64 0)), .d (.v (.bool false)), .d (.v (.int .i64 0)), .d (.v (.int .i64 0)), .d (.v (.int .i64 0)), .d (.v (.slice none 0 0)), .d (.v (.int .i64 0)), .d (.v (.string ((⟨#[]⟩ : ByteArray)))), .d (.v (.string ((⟨#[]⟩ : ByteArray))))]), some (.box [.d (.v (.string ((⟨#[]⟩ : ByteArray)))), .d (.v (.string ((⟨#[]⟩ : ByteArray)))), .d (.v (.string ((⟨#[109]⟩ : ByteArray)))), .d (.v (.int .i64 0)), .d (.v (.int .i64 0)), .d (.v (.int .i64 0)), .d (.v (.int .i64 0)), .d (.v (.bool false)), .d (.v (.int .i64 0)), .d (.v (.slice none 0 0)), .d (.v (.slice none 0 0)), .d (.v (.slice none 0 0)), .d (.v (.slice none 0 0)), .d (.v (.int .i64 0)), .d (.v (.int .i64 0)), .d (.v (.int .i64 0)), .d (.v (.int .i64 0)), .d (.v (.bool false)), .d (.v (.slice none 0 0)), .d (.v (.bool true)), .d (.v (.int .i64 0)), .d (.v (.bool false)), .d (.v (.bool false)), .d (.v (.slice none 0 0))])]⟩) ?_ ?_
  · have h := ho
    clear ho
    simp only [VW.down, Nat.reduceEqDiff, reduceCtorEq, Nat.reduceAdd, Nat.reduceLeDiff, Nat.reduceLT, Nat.reduceBEq, Nat.reduceSub, EE.down]
    obtain rfl := Option.some.inj h
    exact eM [some 13, some 14, some 16, some 17] rfl
  · rintro _ rfl
    clear ho
    simp only [VW.down, Nat.reduceEqDiff, reduceCtorEq, Nat.reduceAdd, Nat.reduceLeDiff, Nat.reduceLT, Nat.reduceBEq, Nat.reduceSub, EE.down]
    refine t_bslice (enc := eNode) (ys := [(⟨(⟨((⟨#[78, 111, 100, 101]⟩ : ByteArray)), ((⟨#[]⟩ : ByteArray)), ((⟨#[110]⟩ : ByteArray)), (0 : Int), (0 : Int), (0 : Int), (0 : Int), false, (0 : Int), t2.1, t2.2.1, t2.2.2.1, t2.2.2.2.1⟩ : Meta), (⟨(0 : Int), (0 : Int), (0 : Int)⟩ : Resources), (0 : Int), false, t2.2.2.2.2.1, decide (¬ ((if 1000000000000 < (if (40 : Int) < 0 then 0 else (40 : Int)) then 1000000000000 else (if (40 : Int) < 0 then 0 else (40 : Int))) < (IntKind.i64.wrap (((if 1000000000000 < (if (141 : Int) < 0 then 0 else (141 : Int)) then 1000000000000 else (if (141 : Int) < 0 then 0 else (141 : Int)))) - ((if 1000000000000 < (if (100 : Int) < 0 then 0 else (100 : Int)) then 1000000000000 else (if (100 : Int) < 0 then 0 else (100 : Int)))))))), (100 : Int), false, false, t2.2.2.2.2.2⟩ : Node), (⟨(⟨(⟨#[]⟩ : ByteArray), (⟨#[]⟩ : ByteArray), (⟨#[109]⟩ : ByteArray), 0, 0, 0, 0, false, 0, [], [], [], []⟩ : Meta), (⟨0, 0, 0⟩ : Resources), 0, false, [], true, 0, false, false, []⟩ : Node)]) rfl rfl (by simp [A1.cells]) (by first | rfl | (simp only [List.drop_zero, take_mapL]; rfl)) ?_
    simp only [VW.down, Nat.reduceEqDiff, reduceCtorEq, Nat.reduceAdd, Nat.reduceLeDiff, Nat.reduceLT, Nat.reduceBEq, Nat.reduceSub, EE.down]
    refine kD_new (by simp [wrs, allW, hset]) ?_
    simp only [VW.down, Nat.reduceEqDiff, reduceCtorEq, Nat.reduceAdd, Nat.reduceLeDiff, Nat.reduceLT, Nat.reduceBEq, Nat.reduceSub, EE.down]
    refine t_bslice (enc := ePod) (ys := [(⟨(⟨(⟨#[80, 111, 100]⟩ : ByteArray), (⟨#[120]⟩ : ByteArray), (⟨#[112]⟩ : ByteArray), 0, 0, 0, 0, false, 0, [], [], [], []⟩ : Meta), (⟨(⟨#[110]⟩ : ByteArray), 0, 0, 0, [], [], [], [], [], [(⟨(⟨#[110, 111, 100, 101, 45, 110, 111, 116, 45, 114, 101, 97, 100, 121]⟩ : ByteArray), (⟨#[]⟩ : ByteArray), true, 0, 300⟩ : Toleration)]⟩ : PodSpec), (⟨0, false, 0, 0, 0, [], 0, (⟨#[]⟩ : ByteArray), (⟨#[]⟩ : ByteArray)⟩ : PodStatus)⟩ : Pod)]) rfl rfl (by simp [A1.cells]) (by first | rfl | (simp only [List.drop_zero, take_mapL]; rfl)) ?_
    simp only [VW.down, Nat.reduceEqDiff, reduceCtorEq, Nat.reduceAdd, Nat.reduceLeDiff, Nat.reduceLT, Nat.reduceBEq, Nat.reduceSub, EE.down]
    refine kD_new (by simp [wrs, allW, hset]) ?_
    simp only [VW.down, Nat.reduceEqDiff, reduceCtorEq, Nat.reduceAdd, Nat.reduceLeDiff, Nat.reduceLT, Nat.reduceBEq, Nat.reduceSub, EE.down]
    obtain ⟨t4, ht4, h⟩ := Option.bind_eq_some_iff.1 h
    refine callX_borF (F13_ok ht4) (by simp only [borAs, bors, hp, List.getElem?_cons_zero, List.getElem?_cons_succ, Option.join_some, List.drop_zero, bor_full', true_and, Nat.zero_add, List.length_map, Nat.le_refl, nrm, List.length_cons, List.length_nil, Nat.reduceAdd, Nat.reduceLeDiff, List.take_succ_cons, List.take_zero, List.take_nil, List.map_cons, List.map_nil, List.length_set, EE.down]) rfl ⟨flat_rows (enc := eS) (fun _ => rfl) _, trivial⟩ ?_
    simp only [VW.down, Nat.reduceEqDiff, reduceCtorEq, Nat.reduceAdd, Nat.reduceLeDiff, Nat.reduceLT, Nat.reduceBEq, Nat.reduceSub, EE.down]
    refine kD_new (by simp [wrs, allW, hset]) ?_
    simp only [VW.down, Nat.reduceEqDiff, reduceCtorEq, Nat.reduceAdd, Nat.reduceLeDiff, Nat.reduceLT, Nat.reduceBEq, Nat.reduceSub, EE.down]
    refine t_bslice (enc := eNode) (ys := [(⟨(⟨((⟨#[78, 111, 100, 101]⟩ : ByteArray)), ((⟨#[]⟩ : ByteArray)), ((⟨#[110]⟩ : ByteArray)), (0 : Int), (0 : Int), (0 : Int), (0 : Int), false, (0 : Int), t2.1, t2.2.1, t2.2.2.1, t2.2.2.2.1⟩ : Meta), (⟨(0 : Int), (0 : Int), (0 : Int)⟩ : Resources), (0 : Int), false, t2.2.2.2.2.1, decide (¬ ((if 1000000000000 < (if (40 : Int) < 0 then 0 else (40 : Int)) then 1000000000000 else (if (40 : Int) < 0 then 0 else (40 : Int))) < (IntKind.i64.wrap (((if 1000000000000 < (if (141 : Int) < 0 then 0 else (141 : Int)) then 1000000000000 else (if (141 : Int) < 0 then 0 else (141 : Int)))) - ((if 1000000000000 < (if (100 : Int) < 0 then 0 else (100 : Int)) then 1000000000000 else (if (100 : Int) < 0 then 0 else (100 : Int)))))))), (100 : Int), false, false, t2.2.2.2.2.2⟩ : Node), (⟨(⟨(⟨#[]⟩ : ByteArray), (⟨#[]⟩ : ByteArray), (⟨#[109]⟩ : ByteArray), 0, 0, 0, 0, false, 0, [], [], [], []⟩ : Meta), (⟨0, 0, 0⟩ : Resources), 0, false, [], true, 0, false, false, []⟩ : Node)]) rfl rfl (by simp [A1.cells]) (by first | rfl | (simp only [List.drop_zero, take_mapL]; rfl)) ?_
    simp only [VW.down, Nat.reduceEqDiff, reduceCtorEq, Nat.reduceAdd, Nat.reduceLeDiff, Nat.reduceLT, Nat.reduceBEq, Nat.reduceSub, EE.down]
    refine kD_new (by simp [wrs, allW, hset]) ?_
    simp only [VW.down, Nat.reduceEqDiff, reduceCtorEq, Nat.reduceAdd, Nat.reduceLeDiff, Nat.reduceLT, Nat.reduceBEq, Nat.reduceSub, EE.down]
    refine t_bslice (enc := ePod) (ys := [(⟨(⟨(⟨#[80, 111, 100]⟩ : ByteArray), (⟨#[120]⟩ : ByteArray), (⟨#[112]⟩ : ByteArray), 0, 0, 0, 0, false, 0, [], [], [], []⟩ : Meta), (⟨(⟨#[110]⟩ : ByteArray), 0, 0, 0, [], [], [], [], [], [(⟨(⟨#[110, 111, 100, 101, 45, 110, 111, 116, 45, 114, 101, 97, 100, 121]⟩ : ByteArray), (⟨#[]⟩ : ByteArray), true, 0, 300⟩ : Toleration)]⟩ : PodSpec), (⟨0, false, 0, 0, 0, [], 0, (⟨#[]⟩ : ByteArray), (⟨#[]⟩ : ByteArray)⟩ : PodStatus)⟩ : Pod)]) rfl rfl (by simp [A1.cells]) (by first | rfl | (simp only [List.drop_zero, take_mapL]; rfl)) ?_
    simp only [VW.down, Nat.reduceEqDiff, reduceCtorEq, Nat.reduceAdd, Nat.reduceLeDiff, Nat.reduceLT, Nat.reduceBEq, Nat.reduceSub, EE.down]
    refine kD_new (by simp [wrs, allW, hset]) ?_
    simp only [VW.down, Nat.reduceEqDiff, reduceCtorEq, Nat.reduceAdd, Nat.reduceLeDiff, Nat.reduceLT, Nat.reduceBEq, Nat.reduceSub, EE.down]
    obtain ⟨t5, ht5, h⟩ := Option.bind_eq_some_iff.1 h
    refine callX_borF (F13_ok ht5) (by simp only [borAs, bors, hp, List.getElem?_cons_zero, List.getElem?_cons_succ, Option.join_some, List.drop_zero, bor_full', true_and, Nat.zero_add, List.length_map, Nat.le_refl, nrm, List.length_cons, List.length_nil, Nat.reduceAdd, Nat.reduceLeDiff, List.take_succ_cons, List.take_zero, List.take_nil, List.map_cons, List.map_nil, List.length_set, EE.down]) rfl ⟨flat_rows (enc := eS) (fun _ => rfl) _, trivial⟩ ?_
    simp only [VW.down, Nat.reduceEqDiff, reduceCtorEq, Nat.reduceAdd, Nat.reduceLeDiff, Nat.reduceLT, Nat.reduceBEq, Nat.reduceSub, EE.down]
    refine t_bslice (enc := eNode) (ys := [(⟨(⟨(⟨#[]⟩ : ByteArray), (⟨#[]⟩ : ByteArray), (⟨#[109]⟩ : ByteArray), 0, 0, 0, 0, false, 0, [], [], [], []⟩ : Meta), (⟨0, 0, 0⟩ : Resources), 0, false, [], true, 0, false, false, []⟩ : Node)]) rfl rfl (by simp [A1.cells]) (by first | rfl | (simp only [List.drop_zero, take_mapL]; rfl)) ?_
    simp only [VW.down, Nat.reduceEqDiff, reduceCtorEq, Nat.reduceAdd, Nat.reduceLeDiff, Nat.reduceLT, Nat.reduceBEq, Nat.reduceSub, EE.down]
    refine t_bslice (enc := ePod) (ys := [(⟨(⟨(⟨#[80, 111, 100]⟩ : ByteArray), (⟨#[120]⟩ : ByteArray), (⟨#[112]⟩ : ByteArray), 0, 0, 0, 0, false, 0, [], [], [], []⟩ : Meta), (⟨(⟨#[110]⟩ : ByteArray), 0, 0, 0, [], [], [], [], [], [(⟨(⟨#[110, 111, 100, 101, 45, 110, 111, 116, 45, 114, 101, 97, 100, 121]⟩ : ByteArray), (⟨#[]⟩ : ByteArray), true, 0, 300⟩ : Toleration)]⟩ : PodSpec), (⟨0, false, 0, 0, 0, [], 0, (⟨#[]⟩ : ByteArray), (⟨#[]⟩ : ByteArray)⟩ : PodStatus)⟩ : Pod)]) rfl rfl (by simp [A1.cells]) (by first | rfl | (simp only [List.drop_zero, take_mapL]; rfl)) ?_
    simp only [VW.down, Nat.reduceEqDiff, reduceCtorEq, Nat.reduceAdd, Nat.reduceLeDiff, Nat.reduceLT, Nat.reduceBEq, Nat.reduceSub, EE.down]
    obtain ⟨t6, ht6, h⟩ := Option.bind_eq_some_iff.1 h
    refine callX_borF (F15_ok ht6) (by simp only [borAs, bors, hp, List.getElem?_cons_zero, List.getElem?_cons_succ, Option.join_some, List.drop_zero, bor_full', true_and, Nat.zero_add, List.length_map, Nat.le_refl, nrm, List.length_cons, List.length_nil, Nat.reduceAdd, Nat.reduceLeDiff, List.take_succ_cons, List.take_zero, List.take_nil, List.map_cons, List.map_nil, List.length_set, EE.down]) rfl ⟨flat_rows (enc := eS) (fun _ => rfl) _, trivial⟩ ?_
    simp only [VW.down, Nat.reduceEqDiff, reduceCtorEq, Nat.reduceAdd, Nat.reduceLeDiff, Nat.reduceLT, Nat.reduceBEq, Nat.reduceSub, EE.down]
    obtain ⟨o7, ho, h⟩ := Option.bind_eq_some_iff.1 h
    refine cutS (fun s => s = ⟨[(0, .one (.c (.d (.v (.bool o7)))))], []⟩) ?_ ?_
    · have h := ho
      clear ho
      simp only [VW.down, Nat.reduceEqDiff, reduceCtorEq, Nat.reduceAdd, Nat.reduceLeDiff, Nat.reduceLT, Nat.reduceBEq, Nat.reduceSub, EE.down]
      refine guardS (fun g8 => ?_) (fun g8 => ?_)
      · have h := (if_pos g8).symm.trans h
        simp only [VW.down, Nat.reduceEqDiff, reduceCtorEq, Nat.reduceAdd, Nat.reduceLeDiff, Nat.reduceLT, Nat.reduceBEq, Nat.reduceSub, EE.down]
        refine guardS (fun g9 => ?_) (fun g9 => ?_)
        · have h := (if_pos g9).symm.trans h
          simp only [VW.down, Nat.reduceEqDiff, reduceCtorEq, Nat.reduceAdd, Nat.reduceLeDiff, Nat.reduceLT, Nat.reduceBEq, Nat.reduceSub, EE.down]
          refine guardS (fun g10 => ?_) (fun g10 => ?_)
          · have h := (if_pos g10).symm.trans h
            simp only [VW.down, Nat.reduceEqDiff, reduceCtorEq, Nat.reduceAdd, Nat.reduceLeDiff, Nat.reduceLT, Nat.reduceBEq, Nat.reduceSub, EE.down]
            refine guardS (fun g11 => ?_) (fun g11 => ?_)
            · have h := (if_pos g11).symm.trans h
              simp only [VW.down, Nat.reduceEqDiff, reduceCtorEq, Nat.reduceAdd, Nat.reduceLeDiff, Nat.reduceLT, Nat.reduceBEq, Nat.reduceSub, EE.down]
              obtain ⟨y12, hy12, h⟩ := Option.bind_eq_some_iff.1 h
              refine t_idxF (enc := eTaint) (xs := t2.2.2.2.2.1) rfl rfl hy12 rfl ?_
              simp only [VW.down, Nat.reduceEqDiff, reduceCtorEq, Nat.reduceAdd, Nat.reduceLeDiff, Nat.reduceLT, Nat.reduceBEq, Nat.reduceSub, EE.down]
              refine guardS (fun g13 => ?_) (fun g13 => ?_)
              · have h := (if_pos g13).symm.trans h
                simp only [VW.down, Nat.reduceEqDiff, reduceCtorEq, Nat.reduceAdd, Nat.reduceLeDiff, Nat.reduceLT, Nat.reduceBEq, Nat.reduceSub, EE.down]
                refine guardS (fun g14 => ?_) (fun g14 => ?_)
                · have h := (if_pos g14).symm.trans h
                  simp only [VW.down, Nat.reduceEqDiff, reduceCtorEq, Nat.reduceAdd, Nat.reduceLeDiff, Nat.reduceLT, Nat.reduceBEq, Nat.reduceSub, EE.down]
                  refine guardS (fun g15 => ?_) (fun g15 => ?_)
                  · have h := (if_pos g15).symm.trans h
                    simp only [VW.down, Nat.reduceEqDiff, reduceCtorEq, Nat.reduceAdd, Nat.reduceLeDiff, Nat.reduceLT, Nat.reduceBEq, Nat.reduceSub, EE.down]
                    obtain ⟨y16, hy16, h⟩ := Option.bind_eq_some_iff.1 h
                    refine t_idxO (enc := eS) (xs := t5) rfl rfl rfl (by first | rfl | simp only [List.length_set] | exact (clrL_len (slI_len (by assumption))).symm) hy16 ?_
                    simp only [VW.down, Nat.reduceEqDiff, reduceCtorEq, Nat.reduceAdd, Nat.reduceLeDiff, Nat.reduceLT, Nat.reduceBEq, Nat.reduceSub, EE.down]
                    refine LdRow.rd (rdI_some hy16).2.1 ?_
                    simp only [VW.down, Nat.reduceEqDiff, reduceCtorEq, Nat.reduceAdd, Nat.reduceLeDiff, Nat.reduceLT, Nat.reduceBEq, Nat.reduceSub, EE.down]
                    refine guardS (fun g17 => ?_) (fun g17 => ?_)
                    · have h := (if_pos g17).symm.trans h
                      simp only [VW.down, Nat.reduceEqDiff, reduceCtorEq, Nat.reduceAdd, Nat.reduceLeDiff, Nat.reduceLT, Nat.reduceBEq, Nat.reduceSub, EE.down]
                      refine guardS (fun g18 => ?_) (fun g18 => ?_)
                      · have h := (if_pos g18).symm.trans h
                        simp only [VW.down, Nat.reduceEqDiff, reduceCtorEq, Nat.reduceAdd, Nat.reduceLeDiff, Nat.reduceLT, Nat.reduceBEq, Nat.reduceSub, EE.down]
                        obtain ⟨y19, hy19, h⟩ := Option.bind_eq_some_iff.1 h
                        refine t_idxO (enc := eS) (xs := t6) rfl rfl rfl (by first | rfl | simp only [List.length_set] | exact (clrL_len (slI_len (by assumption))).symm) hy19 ?_
                        simp only [VW.down, Nat.reduceEqDiff, reduceCtorEq, Nat.reduceAdd, Nat.reduceLeDiff, Nat.reduceLT, Nat.reduceBEq, Nat.reduceSub, EE.down]
                        refine LdRow.rd (rdI_some hy19).2.1 ?_
                        simp only [VW.down, Nat.reduceEqDiff, reduceCtorEq, Nat.reduceAdd, Nat.reduceLeDiff, Nat.reduceLT, Nat.reduceBEq, Nat.reduceSub, EE.down]
                        obtain rfl := Option.some.inj h
                        exact eM [] rfl
                      · have h := (if_neg g18).symm.trans h
                        simp only [VW.down, Nat.reduceEqDiff, reduceCtorEq, Nat.reduceAdd, Nat.reduceLeDiff, Nat.reduceLT, Nat.reduceBEq, Nat.reduceSub, EE.down]
                        obtain rfl := Option.some.inj h
                        exact eM [] rfl
                    · have h := (if_neg g17).symm.trans h
                      simp only [VW.down, Nat.reduceEqDiff, reduceCtorEq, Nat.reduceAdd, Nat.reduceLeDiff, Nat.reduceLT, Nat.reduceBEq, Nat.reduceSub, EE.down]
                      obtain rfl := Option.some.inj h
                      exact eM [] rfl
                  · have h := (if_neg g15).symm.trans h
                    simp only [VW.down, Nat.reduceEqDiff, reduceCtorEq, Nat.reduceAdd, Nat.reduceLeDiff, Nat.reduceLT, Nat.reduceBEq, Nat.reduceSub, EE.down]
                    obtain rfl := Option.some.inj h
                    exact eM [] rfl
                · have h := (if_neg g14).symm.trans h
                  simp only [VW.down, Nat.reduceEqDiff, reduceCtorEq, Nat.reduceAdd, Nat.reduceLeDiff, Nat.reduceLT, Nat.reduceBEq, Nat.reduceSub, EE.down]
                  obtain rfl := Option.some.inj h
                  exact eM [] rfl
              · have h := (if_neg g13).symm.trans h
                simp only [VW.down, Nat.reduceEqDiff, reduceCtorEq, Nat.reduceAdd, Nat.reduceLeDiff, Nat.reduceLT, Nat.reduceBEq, Nat.reduceSub, EE.down]
                obtain rfl := Option.some.inj h
                exact eM [] rfl
            · have h := (if_neg g11).symm.trans h
              simp only [VW.down, Nat.reduceEqDiff, reduceCtorEq, Nat.reduceAdd, Nat.reduceLeDiff, Nat.reduceLT, Nat.reduceBEq, Nat.reduceSub, EE.down]
              obtain rfl := Option.some.inj h
              exact eM [] rfl
          · have h := (if_neg g10).symm.trans h
            simp only [VW.down, Nat.reduceEqDiff, reduceCtorEq, Nat.reduceAdd, Nat.reduceLeDiff, Nat.reduceLT, Nat.reduceBEq, Nat.reduceSub, EE.down]
            obtain rfl := Option.some.inj h
            exact eM [] rfl
        · have h := (if_neg g9).symm.trans h
          simp only [VW.down, Nat.reduceEqDiff, reduceCtorEq, Nat.reduceAdd, Nat.reduceLeDiff, Nat.reduceLT, Nat.reduceBEq, Nat.reduceSub, EE.down]
          obtain rfl := Option.some.inj h
          exact eM [] rfl
      · have h := (if_neg g8).symm.trans h
        simp only [VW.down, Nat.reduceEqDiff, reduceCtorEq, Nat.reduceAdd, Nat.reduceLeDiff, Nat.reduceLT, Nat.reduceBEq, Nat.reduceSub, EE.down]
        obtain rfl := Option.some.inj h
        exact eM [] rfl
    · rintro _ rfl
      clear ho
      simp only [VW.down, Nat.reduceEqDiff, reduceCtorEq, Nat.reduceAdd, Nat.reduceLeDiff, Nat.reduceLT, Nat.reduceBEq, Nat.reduceSub, EE.down]
      obtain rfl := Option.some.inj h
      exact eF []

/- orchestrator/orchestratorref54.find -/
def F37_l1 (x1 : ByteArray) : List Node → Nat → Option ((Int) ⊕ (Unit))
  | [], o1_0 => some (Sum.inr (()))
  | xo1 :: xs, o1_0 => (if xo1.Meta.Name = x1 then (some ((o1_0 : Int))).map Sum.inl else F37_l1 x1 xs (o1_0 + 1))
def F37 (x0 : (List Node)) (x1 : ByteArray) : Option (Int) := (((ck (0 ≤ x0.length ∧ x0.length ≤ 4294967290)).bind fun u4 => F37_l1 x1 x0 0).bind fun o1 => match o1 with | Sum.inl f => some f | Sum.inr po1 => some ((-1)))
def a37 : AFn := ⟨21, [(.tmp 4)],
 (.seq (.reg [⟨(some 4), none, .mv (kI 0), [], (.new [])⟩])
 (.seq (.seq (.reg [⟨(some 5), none, .mv (kI 0), [], (.new [])⟩])
 (.sem (.block 0 (.loop (.seq (.seq (.reg [⟨(some 6), none, .mv (.t 5), [], (.new [])⟩,
   ⟨(some 7), none, .mv (.t 0), [], (.new [])⟩,
   ⟨(some 8), none, .len (.t 7), [], (.new [])⟩,
   ⟨(some 9), none, .bin .lss (.t 6) (.t 8), [], (.new [])⟩])
 (.cond (.t 9)
 .skip
 (.exit 0)))
 (.seq (.block 1 (.seq (.reg [⟨(some 12), none, .mv (.t 0), [], (.new [])⟩,
   ⟨(some 13), none, .mv (.t 5), [], (.new [])⟩,
   ⟨(some 14), none, .indexA 24 (.t 12) (.t 13), [], (.new [])⟩,
   ⟨(some 15), none, .fieldA 0 (.t 14), [], (.new [])⟩,
   ⟨(some 16), none, .fieldA 2 (.t 15), [], (.new [])⟩,
   ⟨(some 17), none, .load none (.t 16), [], (.new [])⟩,
   ⟨(some 18), none, .mv (.t 1), [], (.new [])⟩,
   ⟨(some 19), none, .bin .eql (.t 17) (.t 18), [], (.new [])⟩])
 (.cond (.t 19)
 (.seq (.reg [⟨(some 20), none, .mv (.t 5), [], (.new [])⟩,
   ⟨(some 4), none, .mv (.t 20), [], (.new [])⟩])
 .ret)
 .skip)))
 (.reg [⟨(some 10), none, .mv (.t 5), [], (.new [])⟩,
   ⟨(some 11), none, .bin .add (.t 10) (kI 1), [], (.new [])⟩,
   ⟨(some 5), none, .mv (.t 11), [], (.new [])⟩])))))))
 (.seq (.reg [⟨(some 4), none, .mv (kI (-1)), [], (.new [])⟩])
 .ret)))⟩
theorem a37_ok : afn Try.prog 37 = some a37.er := by kernel_rfl
theorem F37_ok {x0 : (List Node)} {x1 : ByteArray} {r : Int} (h : F37 x0 x1 = some r) : CallD Try.prog 37 [.c (.d (.sl (x0.map eNode))), .c (.d (.v (.string x1)))] [] (tupV [.c (.d (.v (.int .i64 r)))]) [] := by
  refine callS a37_ok (by simp [a37]) ?_
  rw [F37] at h
  simp only [a37, VW.down, Nat.reduceEqDiff, reduceCtorEq, Nat.reduceAdd, Nat.reduceLeDiff, Nat.reduceLT, Nat.reduceBEq, Nat.reduceSub, EE.down]
  obtain ⟨o1, ho, h⟩ := Option.bind_eq_some_iff.1 h
  refine cutS (fun s => ∃ po1, o1 = Sum.inr po1 ∧ s = ⟨[], []⟩) ?_ ?_
  · have h0o1 := h
    have h := ho
    clear ho
    obtain ⟨_, hk, h⟩ := Option.bind_eq_some_iff.1 h
    have hk := ck_some hk
    simp only [VW.down, Nat.reduceEqDiff, reduceCtorEq, Nat.reduceAdd, Nat.reduceLeDiff, Nat.reduceLT, Nat.reduceBEq, Nat.reduceSub, EE.down]
    refine bL (fun j s => ∃ (o1_0 : Nat), (o1_0 ≤ x0.length ∧ j = x0.length - o1_0) ∧ s = ⟨[(0, .one (.c (.d (.sl (x0.map eNode))))), (1, .one (.c (.d (.v (.string x1))))), (5, .one (.c (.d (.v (.int .i64 ((o1_0 : Int)))))))], []⟩ ∧ F37_l1 x1 (x0.drop o1_0) o1_0 = some o1) (x0.length - 0) [] ⟨0, ⟨hk.1, rfl⟩, rfl, h⟩ ?_
    rintro _ _ ⟨o1_0, ⟨hi, rfl⟩, rfl, h⟩
    simp only [VW.down, Nat.reduceEqDiff, reduceCtorEq, Nat.reduceAdd, Nat.reduceLeDiff, Nat.reduceLT, Nat.reduceBEq, Nat.reduceSub, EE.down]
    refine condS (fun c2 => ?_) (fun c2 => ?_)
    · obtain ⟨xo1, hxo1, hd⟩ := countY (show (o1_0 : Int) < (x0.length : Int) from c2)
      rw [hd, F37_l1] at h
      simp only [VW.down, Nat.reduceEqDiff, reduceCtorEq, Nat.reduceAdd, Nat.reduceLeDiff, Nat.reduceLT, Nat.reduceBEq, Nat.reduceSub, EE.down]
      refine t_idxF (enc := eNode) (xs := x0) rfl rfl hxo1 rfl ?_
      simp only [VW.down, Nat.reduceEqDiff, reduceCtorEq, Nat.reduceAdd, Nat.reduceLeDiff, Nat.reduceLT, Nat.reduceBEq, Nat.reduceSub, EE.down]
      refine condS (fun c3 => ?_) (fun c3 => ?_)
      · have h := (if_pos c3).symm.trans h
        simp only [VW.down, Nat.reduceEqDiff, reduceCtorEq, Nat.reduceAdd, Nat.reduceLeDiff, Nat.reduceLT, Nat.reduceBEq, Nat.reduceSub, EE.down]
        obtain ⟨fh0o1, hfh0o1, rfl⟩ := Option.map_eq_some_iff.1 h
        have h := hfh0o1.trans h0o1
        obtain rfl := Option.some.inj h
        exact eF []
      · have h := (if_neg c3).symm.trans h
        simp only [VW.down, Nat.reduceEqDiff, reduceCtorEq, Nat.reduceAdd, Nat.reduceLeDiff, Nat.reduceLT, Nat.reduceBEq, Nat.reduceSub, EE.down]
        rw [wrapN (by omega)]
        exact eL' (x0.length - (o1_0 + 1)) [] ⟨o1_0 + 1, ⟨by omega, rfl⟩, rfl, h⟩ (by omega)
    · rw [countN (show ¬ ((o1_0 : Int) < (x0.length : Int)) from c2), F37_l1] at h
      simp only [VW.down, Nat.reduceEqDiff, reduceCtorEq, Nat.reduceAdd, Nat.reduceLeDiff, Nat.reduceLT, Nat.reduceBEq, Nat.reduceSub, EE.down]
      obtain rfl := Option.some.inj h
      exact eM [] ⟨_, rfl, rfl⟩
  · rintro _ ⟨po1, rfl, rfl⟩
    clear ho
    dsimp only at h
    simp only [VW.down, Nat.reduceEqDiff, reduceCtorEq, Nat.reduceAdd, Nat.reduceLeDiff, Nat.reduceLT, Nat.reduceBEq, Nat.reduceSub, EE.down]
    obtain rfl := Option.some.inj h
    exact eF []

/- orchestrator/orchestratorref13.Controller -/
def F63_l1  : List Owner → Nat → Option ((Owner × Bool) ⊕ (Unit))
  | [], o1_0 => some (Sum.inr (()))
  | xo1 :: xs, o1_0 => (if xo1.Controller = true then (some ((xo1, true))).map Sum.inl else F63_l1  xs (o1_0 + 1))
def F63 (x0 : Meta) : Option (Owner × Bool) := (((ck (0 ≤ x0.Owners.length ∧ x0.Owners.length ≤ 4294967290)).bind fun u4 => F63_l1 x0.Owners 0).bind fun o1 => match o1 with | Sum.inl f => some f | Sum.inr po1 => some (((⟨(⟨#[]⟩ : ByteArray), (⟨#[]⟩ : ByteArray), 0, false, false⟩ : Owner), false)))
def a63 : AFn := ⟨24, [(.cell 2 (some 5)), (.tmp 3)],
 (.seq (.reg [⟨(some 1), none, .box (.t 0), [], (.new [])⟩,
   ⟨(some 2), none, .zbox [.d (.v (.string ⟨#[]⟩)), .d (.v (.string ⟨#[]⟩)), .d (.v (.int .i64 0)), .d (.v (.bool false)), .d (.v (.bool false))], [], (.new [])⟩,
   ⟨(some 3), none, .mv (kB false), [], (.new [])⟩])
 (.seq (.seq (.reg [⟨(some 4), none, .mv (kI 0), [], (.new [])⟩])
 (.sem (.block 0 (.loop (.seq (.seq (.reg [⟨(some 5), none, .mv (.t 4), [], (.new [])⟩,
   ⟨(some 6), none, .fieldA 10 (.t 1), [], (.new [])⟩,
   ⟨(some 7), none, .load none (.t 6), [], (.new [])⟩,
   ⟨(some 8), none, .len (.t 7), [], (.new [])⟩,
   ⟨(some 9), none, .bin .lss (.t 5) (.t 8), [], (.new [])⟩])
 (.cond (.t 9)
 .skip
 (.exit 0)))
 (.seq (.block 1 (.seq (.reg [⟨(some 12), none, .fieldA 10 (.t 1), [], (.new [])⟩,
   ⟨(some 13), none, .load none (.t 12), [], (.new [])⟩,
   ⟨(some 14), none, .mv (.t 4), [], (.new [])⟩,
   ⟨(some 15), none, .indexA 5 (.t 13) (.t 14), [], (.new [])⟩,
   ⟨(some 16), none, .fieldA 3 (.t 15), [], (.new [])⟩,
   ⟨(some 17), none, .load none (.t 16), [], (.new [])⟩])
 (.cond (.t 17)
 (.seq (.reg [⟨(some 18), none, .fieldA 10 (.t 1), [], (.new [])⟩,
   ⟨(some 19), none, .load none (.t 18), [], (.new [])⟩,
   ⟨(some 20), none, .mv (.t 4), [], (.new [])⟩,
   ⟨(some 21), none, .indexA 5 (.t 19) (.t 20), [], (.new [])⟩,
   ⟨(some 22), none, .load (some 5) (.t 21), [], (.new [])⟩,
   ⟨none, none, .store 5 (.t 2) (.t 22), [], (.new [])⟩,
   ⟨(some 3), none, .mv (kB true), [], (.new [])⟩])
 .ret)
 .skip)))
 (.reg [⟨(some 10), none, .mv (.t 4), [], (.new [])⟩,
   ⟨(some 11), none, .bin .add (.t 10) (kI 1), [], (.new [])⟩,
   ⟨(some 4), none, .mv (.t 11), [], (.new [])⟩])))))))
 (.seq (.reg [⟨(some 23), none, .build [.d (.v (.string ⟨#[]⟩)), .d (.v (.string ⟨#[]⟩)), .d (.v (.int .i64 0)), .d (.v (.bool false)), .d (.v (.bool false))] [], [], (.new [])⟩,
   ⟨none, none, .store 5 (.t 2) (.t 23), [], (.new [])⟩,
   ⟨(some 3), none, .mv (kB false), [], (.new [])⟩])
 .ret)))⟩
theorem a63_ok : afn Try.prog 63 = some a63.er := by kernel_rfl
theorem F63_ok {x0 : Meta} {r : Owner × Bool} (h : F63 x0 = some r) : CallD Try.prog 63 [.agg [.d (.v (.string x0.Kind)), .d (.v (.string x0.Namespace)), .d (.v (.string x0.Name)), .d (.v (.int .i64 x0.Uid)), .d (.v (.int .i64 x0.Version)), .d (.v (.int .i64 x0.Generation)), .d (.v (.int .i64 x0.Created)), .d (.v (.bool x0.Deleting)), .d (.v (.int .i64 x0.DeleteAt)), .d (.sl (x0.Labels.map eLabel)), .d (.sl (x0.Owners.map eOwner)), .d (.sl (x0.Finalizers.map eS)), .d (.sl (x0.Managers.map eManager))]] [] (tupV [.agg [.d (.v (.string ((r.1).Kind))), .d (.v (.string ((r.1).Name))), .d (.v (.int .i64 ((r.1).Uid))), .d (.v (.bool ((r.1).Controller))), .d (.v (.bool ((r.1).Block)))], .c (.d (.v (.bool r.2)))]) [] := by
  refine callS a63_ok (by simp [a63]) ?_
  rw [F63] at h
  simp only [a63, VW.down, Nat.reduceEqDiff, reduceCtorEq, Nat.reduceAdd, Nat.reduceLeDiff, Nat.reduceLT, Nat.reduceBEq, Nat.reduceSub, EE.down]
  obtain ⟨o1, ho, h⟩ := Option.bind_eq_some_iff.1 h
  refine cutS (fun s => ∃ po1, o1 = Sum.inr po1 ∧ s = ⟨[(2, .one (.c (.pt 0 0)))], [some (.box [.d (.v (.string ((⟨#[]⟩ : ByteArray)))), .d (.v (.string ((⟨#[]⟩ : ByteArray)))), .d (.v (.int .i64 0)), .d (.v (.bool false)), .d (.v (.bool false))])]⟩) ?_ ?_
  · have h0o1 := h
    have h := ho
    clear ho
    obtain ⟨_, hk, h⟩ := Option.bind_eq_some_iff.1 h
    have hk := ck_some hk
    simp only [VW.down, Nat.reduceEqDiff, reduceCtorEq, Nat.reduceAdd, Nat.reduceLeDiff, Nat.reduceLT, Nat.reduceBEq, Nat.reduceSub, EE.down]
    refine bL (fun j s => ∃ (o1_0 : Nat), (o1_0 ≤ x0.Owners.length ∧ j = x0.Owners.length - o1_0) ∧ s = ⟨[(1, .one (.c (.pt 0 0))), (2, .one (.c (.pt 1 0))), (4, .one (.c (.d (.v (.int .i64 ((o1_0 : Int)))))))], [some (.box [.d (.v (.string x0.Kind)), .d (.v (.string x0.Namespace)), .d (.v (.string x0.Name)), .d (.v (.int .i64 x0.Uid)), .d (.v (.int .i64 x0.Version)), .d (.v (.int .i64 x0.Generation)), .d (.v (.int .i64 x0.Created)), .d (.v (.bool x0.Deleting)), .d (.v (.int .i64 x0.DeleteAt)), .d (.sl (x0.Labels.map eLabel)), .d (.sl (x0.Owners.map eOwner)), .d (.sl (x0.Finalizers.map eS)), .d (.sl (x0.Managers.map eManager))]), some (.box [.d (.v (.string ((⟨#[]⟩ : ByteArray)))), .d (.v (.string ((⟨#[]⟩ : ByteArray)))), .d (.v (.int .i64 0)), .d (.v (.bool false)), .d (.v (.bool false))])]⟩ ∧ F63_l1 (x0.Owners.drop o1_0) o1_0 = some o1) (x0.Owners.length - 0) [some 0, some 1] ⟨0, ⟨hk.1, rfl⟩, rfl, h⟩ ?_
    rintro _ _ ⟨o1_0, ⟨hi, rfl⟩, rfl, h⟩
    simp only [VW.down, Nat.reduceEqDiff, reduceCtorEq, Nat.reduceAdd, Nat.reduceLeDiff, Nat.reduceLT, Nat.reduceBEq, Nat.reduceSub, EE.down]
    refine condS (fun c2 => ?_) (fun c2 => ?_)
    · obtain ⟨xo1, hxo1, hd⟩ := countY (show (o1_0 : Int) < (x0.Owners.length : Int) from c2)
      rw [hd, F63_l1] at h
      simp only [VW.down, Nat.reduceEqDiff, reduceCtorEq, Nat.reduceAdd, Nat.reduceLeDiff, Nat.reduceLT, Nat.reduceBEq, Nat.reduceSub, EE.down]
      refine t_idxF (enc := eOwner) (xs := x0.Owners) rfl rfl hxo1 rfl ?_
      simp only [VW.down, Nat.reduceEqDiff, reduceCtorEq, Nat.reduceAdd, Nat.reduceLeDiff, Nat.reduceLT, Nat.reduceBEq, Nat.reduceSub, EE.down]
      refine condB (fun c3 => ?_) (fun c3 => ?_)
      · have h := (if_pos c3).symm.trans h
        simp only [VW.down, Nat.reduceEqDiff, reduceCtorEq, Nat.reduceAdd, Nat.reduceLeDiff, Nat.reduceLT, Nat.reduceBEq, Nat.reduceSub, EE.down]
        refine t_idxF (enc := eOwner) (xs := x0.Owners) rfl rfl hxo1 rfl ?_
        simp only [VW.down, Nat.reduceEqDiff, reduceCtorEq, Nat.reduceAdd, Nat.reduceLeDiff, Nat.reduceLT, Nat.reduceBEq, Nat.reduceSub, EE.down]
        obtain ⟨fh0o1, hfh0o1, rfl⟩ := Option.map_eq_some_iff.1 h
        have h := hfh0o1.trans h0o1
        obtain rfl := Option.some.inj h
        exact eF []
      · have h := (if_neg c3).symm.trans h
        simp only [VW.down, Nat.reduceEqDiff, reduceCtorEq, Nat.reduceAdd, Nat.reduceLeDiff, Nat.reduceLT, Nat.reduceBEq, Nat.reduceSub, EE.down]
        rw [wrapN (by omega)]
        exact eL' (x0.Owners.length - (o1_0 + 1)) [some 0, some 1] ⟨o1_0 + 1, ⟨by omega, rfl⟩, rfl, h⟩ (by omega)
    · rw [countN (show ¬ ((o1_0 : Int) < (x0.Owners.length : Int)) from c2), F63_l1] at h
      simp only [VW.down, Nat.reduceEqDiff, reduceCtorEq, Nat.reduceAdd, Nat.reduceLeDiff, Nat.reduceLT, Nat.reduceBEq, Nat.reduceSub, EE.down]
      obtain rfl := Option.some.inj h
      exact eM [some 1] ⟨_, rfl, rfl⟩
  · rintro _ ⟨po1, rfl, rfl⟩
    clear ho
    dsimp only at h
    simp only [VW.down, Nat.reduceEqDiff, reduceCtorEq, Nat.reduceAdd, Nat.reduceLeDiff, Nat.reduceLT, Nat.reduceBEq, Nat.reduceSub, EE.down]
    obtain rfl := Option.some.inj h
    exact eF []

/- orchestrator/orchestratorref54.managed -/
def F29 (x0 : Bool) (x1 : Bool) (x2 : Bool) (x3 : Int) : Option ((List Taint)) := (((if x0 = true then (apI ([] : List Taint) ([(⟨(⟨#[110, 111, 100, 101, 45, 110, 111, 116, 45, 114, 101, 97, 100, 121]⟩ : ByteArray), (⟨#[]⟩ : ByteArray), 1, x3⟩ : Taint), (⟨(⟨#[110, 111, 100, 101, 45, 110, 111, 116, 45, 114, 101, 97, 100, 121]⟩ : ByteArray), (⟨#[]⟩ : ByteArray), 3, x3⟩ : Taint)])).bind fun a3 => some a3 else some ([]))).bind fun o1 => (((if x1 = true then (apI o1 ([(⟨(⟨#[108, 111, 119, 45, 109, 101, 109, 111, 114, 121]⟩ : ByteArray), (⟨#[]⟩ : ByteArray), 1, x3⟩ : Taint)])).bind fun a6 => some a6 else some o1)).bind fun o4 => (if x2 = true then (apI o4 ([(⟨(⟨#[108, 111, 119, 45, 100, 105, 115, 107]⟩ : ByteArray), (⟨#[]⟩ : ByteArray), 1, x3⟩ : Taint)])).bind fun a8 => some a8 else some o4)))
def a29 : AFn := ⟨31, [(.tmp 8)],
 (.seq (.reg [⟨(some 8), none, .mv kN, [], (.new [])⟩])
 (.seq (.reg [⟨(some 9), none, .mv kN, [], (.new [])⟩])
 (.seq (.sem (.seq (.reg [⟨(some 10), none, .mv (.t 0), [], (.new [])⟩])
 (.cond (.t 10)
 (.reg [⟨(some 11), none, .mv (.t 9), [], (.new [])⟩,
   ⟨(some 12), none, .mv (.t 3), [], (.new [])⟩,
   ⟨(some 13), none, .build [.d (.v (.string ⟨#[]⟩)), .d (.v (.string ⟨#[]⟩)), .d (.v (.int .i64 0)), .d (.v (.int .i64 0))] [(0, 1, (kS ⟨#[110, 111, 100, 101, 45, 110, 111, 116, 45, 114, 101, 97, 100, 121]⟩)), (2, 1, (kI 1)), (3, 1, (.t 12))], [], (.new [])⟩,
   ⟨(some 14), none, .mv (.t 3), [], (.new [])⟩,
   ⟨(some 15), none, .build [.d (.v (.string ⟨#[]⟩)), .d (.v (.string ⟨#[]⟩)), .d (.v (.int .i64 0)), .d (.v (.int .i64 0))] [(0, 1, (kS ⟨#[110, 111, 100, 101, 45, 110, 111, 116, 45, 114, 101, 97, 100, 121]⟩)), (2, 1, (kI 3)), (3, 1, (.t 14))], [], (.new [])⟩,
   ⟨(some 16), none, .bslice 4 [(.t 13), (.t 15)], [], (.new [])⟩,
   ⟨(some 17), none, .app 4 48 (.t 11) (.t 16), [], (.new [])⟩,
   ⟨(some 9), none, .mv (.t 17), [], (.new [])⟩])
 .skip)))
 (.seq (.sem (.seq (.reg [⟨(some 18), none, .mv (.t 1), [], (.new [])⟩])
 (.cond (.t 18)
 (.reg [⟨(some 19), none, .mv (.t 9), [], (.new [])⟩,
   ⟨(some 20), none, .mv (.t 3), [], (.new [])⟩,
   ⟨(some 21), none, .build [.d (.v (.string ⟨#[]⟩)), .d (.v (.string ⟨#[]⟩)), .d (.v (.int .i64 0)), .d (.v (.int .i64 0))] [(0, 1, (kS ⟨#[108, 111, 119, 45, 109, 101, 109, 111, 114, 121]⟩)), (2, 1, (kI 1)), (3, 1, (.t 20))], [], (.new [])⟩,
   ⟨(some 22), none, .bslice 4 [(.t 21)], [], (.new [])⟩,
   ⟨(some 23), none, .app 4 48 (.t 19) (.t 22), [], (.new [])⟩,
   ⟨(some 9), none, .mv (.t 23), [], (.new [])⟩])
 .skip)))
 (.seq (.seq (.reg [⟨(some 24), none, .mv (.t 2), [], (.new [])⟩])
 (.cond (.t 24)
 (.reg [⟨(some 25), none, .mv (.t 9), [], (.new [])⟩,
   ⟨(some 26), none, .mv (.t 3), [], (.new [])⟩,
   ⟨(some 27), none, .build [.d (.v (.string ⟨#[]⟩)), .d (.v (.string ⟨#[]⟩)), .d (.v (.int .i64 0)), .d (.v (.int .i64 0))] [(0, 1, (kS ⟨#[108, 111, 119, 45, 100, 105, 115, 107]⟩)), (2, 1, (kI 1)), (3, 1, (.t 26))], [], (.new [])⟩,
   ⟨(some 28), none, .bslice 4 [(.t 27)], [], (.new [])⟩,
   ⟨(some 29), none, .app 4 48 (.t 25) (.t 28), [], (.new [])⟩,
   ⟨(some 9), none, .mv (.t 29), [], (.new [])⟩])
 .skip))
 (.seq (.reg [⟨(some 30), none, .mv (.t 9), [], (.new [])⟩,
   ⟨(some 8), none, .mv (.t 30), [], (.new [])⟩])
 .ret))))))⟩
theorem a29_ok : afn Try.prog 29 = some a29.er := by kernel_rfl
theorem F29_ok {x0 : Bool} {x1 : Bool} {x2 : Bool} {x3 : Int} {r : (List Taint)} (h : F29 x0 x1 x2 x3 = some r) : CallD Try.prog 29 [.c (.d (.v (.bool x0))), .c (.d (.v (.bool x1))), .c (.d (.v (.bool x2))), .c (.d (.v (.int .i64 x3)))] [] (tupV [.c (.own 0 0 0 (r.length) none)]) [some (.arr 0 4 (r.map eTaint))] := by
  refine callS a29_ok (by simp [a29]) ?_
  rw [F29] at h
  simp only [a29, VW.down, Nat.reduceEqDiff, reduceCtorEq, Nat.reduceAdd, Nat.reduceLeDiff, Nat.reduceLT, Nat.reduceBEq, Nat.reduceSub, EE.down]
  obtain ⟨o1, ho, h⟩ := Option.bind_eq_some_iff.1 h
  refine cutS (fun s => s = ⟨[(1, .one (.c (.d (.v (.bool x1))))), (2, .one (.c (.d (.v (.bool x2))))), (3, .one (.c (.d (.v (.int .i64 x3))))), (9, .one (.c (.own 0 0 0 (o1.length) none)))], [some (.arr 0 4 (o1.map eTaint))]⟩) ?_ ?_
  · have h := ho
    clear ho
    simp only [VW.down, Nat.reduceEqDiff, reduceCtorEq, Nat.reduceAdd, Nat.reduceLeDiff, Nat.reduceLT, Nat.reduceBEq, Nat.reduceSub, EE.down]
    refine condB (fun c2 => ?_) (fun c2 => ?_)
    · have h := (if_pos c2).symm.trans h
      simp only [VW.down, Nat.reduceEqDiff, reduceCtorEq, Nat.reduceAdd, Nat.reduceLeDiff, Nat.reduceLT, Nat.reduceBEq, Nat.reduceSub, EE.down]
      refine t_bslice (enc := eTaint) (ys := [(⟨(⟨#[110, 111, 100, 101, 45, 110, 111, 116, 45, 114, 101, 97, 100, 121]⟩ : ByteArray), (⟨#[]⟩ : ByteArray), 1, x3⟩ : Taint), (⟨(⟨#[110, 111, 100, 101, 45, 110, 111, 116, 45, 114, 101, 97, 100, 121]⟩ : ByteArray), (⟨#[]⟩ : ByteArray), 3, x3⟩ : Taint)]) rfl rfl (by simp [A1.cells]) (by first | rfl | (simp only [List.drop_zero, take_mapL]; rfl)) ?_
      simp only [VW.down, Nat.reduceEqDiff, reduceCtorEq, Nat.reduceAdd, Nat.reduceLeDiff, Nat.reduceLT, Nat.reduceBEq, Nat.reduceSub, EE.down]
      obtain ⟨a3, ha3, h⟩ := Option.bind_eq_some_iff.1 h
      refine t_appN (enc := eTaint) rfl rfl (rows_full (enc := eTaint) (by first | rfl | simp only [List.length_set] | exact (clrL_len (slI_len (by assumption))).symm) rfl) ha3 ?_
      simp only [VW.down, Nat.reduceEqDiff, reduceCtorEq, Nat.reduceAdd, Nat.reduceLeDiff, Nat.reduceLT, Nat.reduceBEq, Nat.reduceSub, EE.down]
      obtain rfl := Option.some.inj h
      exact eM [some 1] rfl
    · have h := (if_neg c2).symm.trans h
      simp only [VW.down, Nat.reduceEqDiff, reduceCtorEq, Nat.reduceAdd, Nat.reduceLeDiff, Nat.reduceLT, Nat.reduceBEq, Nat.reduceSub, EE.down]
      obtain rfl := Option.some.inj h
      exact eM [none] rfl
  · rintro _ rfl
    clear ho
    simp only [VW.down, Nat.reduceEqDiff, reduceCtorEq, Nat.reduceAdd, Nat.reduceLeDiff, Nat.reduceLT, Nat.reduceBEq, Nat.reduceSub, EE.down]
    obtain ⟨o4, ho, h⟩ := Option.bind_eq_some_iff.1 h
    refine cutS (fun s => s = ⟨[(2, .one (.c (.d (.v (.bool x2))))), (3, .one (.c (.d (.v (.int .i64 x3))))), (9, .one (.c (.own 0 0 0 (o4.length) none)))], [some (.arr 0 4 (o4.map eTaint))]⟩) ?_ ?_
    · have h := ho
      clear ho
      simp only [VW.down, Nat.reduceEqDiff, reduceCtorEq, Nat.reduceAdd, Nat.reduceLeDiff, Nat.reduceLT, Nat.reduceBEq, Nat.reduceSub, EE.down]
      refine condB (fun c5 => ?_) (fun c5 => ?_)
      · have h := (if_pos c5).symm.trans h
        simp only [VW.down, Nat.reduceEqDiff, reduceCtorEq, Nat.reduceAdd, Nat.reduceLeDiff, Nat.reduceLT, Nat.reduceBEq, Nat.reduceSub, EE.down]
        refine t_bslice (enc := eTaint) (ys := [(⟨(⟨#[108, 111, 119, 45, 109, 101, 109, 111, 114, 121]⟩ : ByteArray), (⟨#[]⟩ : ByteArray), 1, x3⟩ : Taint)]) rfl rfl (by simp [A1.cells]) (by first | rfl | (simp only [List.drop_zero, take_mapL]; rfl)) ?_
        simp only [VW.down, Nat.reduceEqDiff, reduceCtorEq, Nat.reduceAdd, Nat.reduceLeDiff, Nat.reduceLT, Nat.reduceBEq, Nat.reduceSub, EE.down]
        obtain ⟨a6, ha6, h⟩ := Option.bind_eq_some_iff.1 h
        refine t_app (enc := eTaint) (xs := o1) rfl rfl (by first | rfl | simp only [List.length_set] | exact (clrL_len (slI_len (by assumption))).symm) rfl (rows_full (enc := eTaint) (by first | rfl | simp only [List.length_set] | exact (clrL_len (slI_len (by assumption))).symm) rfl) ha6 ?_
        simp only [VW.down, Nat.reduceEqDiff, reduceCtorEq, Nat.reduceAdd, Nat.reduceLeDiff, Nat.reduceLT, Nat.reduceBEq, Nat.reduceSub, EE.down]
        obtain rfl := Option.some.inj h
        exact eM [some 0] rfl
      · have h := (if_neg c5).symm.trans h
        simp only [VW.down, Nat.reduceEqDiff, reduceCtorEq, Nat.reduceAdd, Nat.reduceLeDiff, Nat.reduceLT, Nat.reduceBEq, Nat.reduceSub, EE.down]
        obtain rfl := Option.some.inj h
        exact eM [some 0] rfl
    · rintro _ rfl
      clear ho
      simp only [VW.down, Nat.reduceEqDiff, reduceCtorEq, Nat.reduceAdd, Nat.reduceLeDiff, Nat.reduceLT, Nat.reduceBEq, Nat.reduceSub, EE.down]
      refine condB (fun c7 => ?_) (fun c7 => ?_)
      · have h := (if_pos c7).symm.trans h
        simp only [VW.down, Nat.reduceEqDiff, reduceCtorEq, Nat.reduceAdd, Nat.reduceLeDiff, Nat.reduceLT, Nat.reduceBEq, Nat.reduceSub, EE.down]
        refine t_bslice (enc := eTaint) (ys := [(⟨(⟨#[108, 111, 119, 45, 100, 105, 115, 107]⟩ : ByteArray), (⟨#[]⟩ : ByteArray), 1, x3⟩ : Taint)]) rfl rfl (by simp [A1.cells]) (by first | rfl | (simp only [List.drop_zero, take_mapL]; rfl)) ?_
        simp only [VW.down, Nat.reduceEqDiff, reduceCtorEq, Nat.reduceAdd, Nat.reduceLeDiff, Nat.reduceLT, Nat.reduceBEq, Nat.reduceSub, EE.down]
        obtain ⟨a8, ha8, h⟩ := Option.bind_eq_some_iff.1 h
        refine t_app (enc := eTaint) (xs := o4) rfl rfl (by first | rfl | simp only [List.length_set] | exact (clrL_len (slI_len (by assumption))).symm) rfl (rows_full (enc := eTaint) (by first | rfl | simp only [List.length_set] | exact (clrL_len (slI_len (by assumption))).symm) rfl) ha8 ?_
        simp only [VW.down, Nat.reduceEqDiff, reduceCtorEq, Nat.reduceAdd, Nat.reduceLeDiff, Nat.reduceLT, Nat.reduceBEq, Nat.reduceSub, EE.down]
        obtain rfl := Option.some.inj h
        exact eF [some 0]
      · have h := (if_neg c7).symm.trans h
        simp only [VW.down, Nat.reduceEqDiff, reduceCtorEq, Nat.reduceAdd, Nat.reduceLeDiff, Nat.reduceLT, Nat.reduceBEq, Nat.reduceSub, EE.down]
        obtain rfl := Option.some.inj h
        exact eF [some 0]

/- orchestrator/orchestratorref54.in -/
def F31_l1 (x1 : Taint) : List Taint → Nat → Option ((Bool) ⊕ (Unit))
  | [], o1_0 => some (Sum.inr (()))
  | xo1 :: xs, o1_0 => (((if xo1.Key = x1.Key then (if xo1.Value = x1.Value then some (decide (xo1.Effect = x1.Effect)) else some false) else some false)).bind fun o3 => (if o3 = true then (some true).map Sum.inl else F31_l1 x1 xs (o1_0 + 1)))
def F31 (x0 : (List Taint)) (x1 : Taint) : Option (Bool) := (((ck (0 ≤ x0.length ∧ x0.length ≤ 4294967290)).bind fun u7 => F31_l1 x1 x0 0).bind fun o1 => match o1 with | Sum.inl f => some f | Sum.inr po1 => some false)
def a31 : AFn := ⟨40, [(.tmp 4)],
 (.seq (.reg [⟨(some 3), none, .box (.t 1), [], (.new [])⟩,
   ⟨(some 4), none, .mv (kB false), [], (.new [])⟩])
 (.seq (.seq (.reg [⟨(some 5), none, .mv (kI 0), [], (.new [])⟩])
 (.sem (.block 0 (.loop (.seq (.seq (.reg [⟨(some 6), none, .mv (.t 5), [], (.new [])⟩,
   ⟨(some 7), none, .mv (.t 0), [], (.new [])⟩,
   ⟨(some 8), none, .len (.t 7), [], (.new [])⟩,
   ⟨(some 9), none, .bin .lss (.t 6) (.t 8), [], (.new [])⟩])
 (.cond (.t 9)
 .skip
 (.exit 0)))
 (.seq (.block 1 (.seq (.sem (.regd [⟨(some 12), none, .mv (.t 0), [], (.new [])⟩,
   ⟨(some 13), none, .mv (.t 5), [], (.new [])⟩,
   ⟨(some 14), none, .indexA 4 (.t 12) (.t 13), [0, 1], (.new [])⟩,
   ⟨(some 15), none, .fieldA 0 (.t 14), [0, 1, 2], (.new [])⟩,
   ⟨(some 16), none, .load none (.t 15), [0, 1, 2, 3], (.new [])⟩,
   ⟨(some 17), none, .fieldA 0 (.t 3), [], (.new [])⟩,
   ⟨(some 18), none, .load none (.t 17), [5], (.new [])⟩,
   ⟨(some 19), none, .bin .eql (.t 16) (.t 18), [0, 1, 2, 3, 4, 5, 6], (.new [])⟩,
   ⟨(some 20), none, .mv (.t 19), [0, 1, 2, 3, 4, 5, 6, 7], (.new [])⟩,
   ⟨(some 21), (some (20, true)), .mv (.t 0), [0, 1, 2, 3, 4, 5, 6, 7, 8], (.new [])⟩,
   ⟨(some 22), (some (20, true)), .mv (.t 5), [0, 1, 2, 3, 4, 5, 6, 7, 8], (.new [])⟩,
   ⟨(some 23), (some (20, true)), .indexA 4 (.t 21) (.t 22), [0, 1, 2, 3, 4, 5, 6, 7, 8, 9, 10], (.new [])⟩,
   ⟨(some 24), (some (20, true)), .fieldA 1 (.t 23), [0, 1, 2, 3, 4, 5, 6, 7, 8, 9, 10, 11], (.new [])⟩,
   ⟨(some 25), (some (20, true)), .load none (.t 24), [0, 1, 2, 3, 4, 5, 6, 7, 8, 9, 10, 11, 12], (.new [])⟩,
   ⟨(some 26), (some (20, true)), .fieldA 1 (.t 3), [0, 1, 2, 3, 4, 5, 6, 7, 8], (.new [])⟩,
   ⟨(some 27), (some (20, true)), .load none (.t 26), [0, 1, 2, 3, 4, 5, 6, 7, 8, 14], (.new [])⟩,
   ⟨(some 28), (some (20, true)), .bin .eql (.t 25) (.t 27), [0, 1, 2, 3, 4, 5, 6, 7, 8, 9, 10, 11, 12, 13, 14, 15], (.new [])⟩,
   ⟨(some 29), none, .pick (.t 20) (.t 28) (kB false), [0, 1, 2, 3, 4, 5, 6, 7, 8, 9, 10, 11, 12, 13, 14, 15, 16], (.lone [])⟩,
   ⟨(some 30), none, .mv (.t 29), [0, 1, 2, 3, 4, 5, 6, 7, 8, 9, 10, 11, 12, 13, 14, 15, 16, 17], (.new [])⟩,
   ⟨(some 31), (some (30, true)), .mv (.t 0), [0, 1, 2, 3, 4, 5, 6, 7, 8, 9, 10, 11, 12, 13, 14, 15, 16, 17, 18], (.new [])⟩,
   ⟨(some 32), (some (30, true)), .mv (.t 5), [0, 1, 2, 3, 4, 5, 6, 7, 8, 9, 10, 11, 12, 13, 14, 15, 16, 17, 18], (.new [])⟩,
   ⟨(some 33), (some (30, true)), .indexA 4 (.t 31) (.t 32), [0, 1, 2, 3, 4, 5, 6, 7, 8, 9, 10, 11, 12, 13, 14, 15, 16, 17, 18, 19, 20], (.new [])⟩,
   ⟨(some 34), (some (30, true)), .fieldA 2 (.t 33), [0, 1, 2, 3, 4, 5, 6, 7, 8, 9, 10, 11, 12, 13, 14, 15, 16, 17, 18, 19, 20, 21], (.new [])⟩,
   ⟨(some 35), (some (30, true)), .load none (.t 34), [0, 1, 2, 3, 4, 5, 6, 7, 8, 9, 10, 11, 12, 13, 14, 15, 16, 17, 18, 19, 20, 21, 22], (.new [])⟩,
   ⟨(some 36), (some (30, true)), .fieldA 2 (.t 3), [0, 1, 2, 3, 4, 5, 6, 7, 8, 9, 10, 11, 12, 13, 14, 15, 16, 17, 18], (.new [])⟩,
   ⟨(some 37), (some (30, true)), .load none (.t 36), [0, 1, 2, 3, 4, 5, 6, 7, 8, 9, 10, 11, 12, 13, 14, 15, 16, 17, 18, 24], (.new [])⟩,
   ⟨(some 38), (some (30, true)), .bin .eql (.t 35) (.t 37), [0, 1, 2, 3, 4, 5, 6, 7, 8, 9, 10, 11, 12, 13, 14, 15, 16, 17, 18, 19, 20, 21, 22, 23, 24, 25], (.new [])⟩,
   ⟨(some 39), none, .pick (.t 30) (.t 38) (kB false), [0, 1, 2, 3, 4, 5, 6, 7, 8, 9, 10, 11, 12, 13, 14, 15, 16, 17, 18, 19, 20, 21, 22, 23, 24, 25, 26], (.lone [])⟩]))
 (.cond (.t 39)
 (.seq (.reg [⟨(some 4), none, .mv (kB true), [], (.new [])⟩])
 .ret)
 .skip)))
 (.reg [⟨(some 10), none, .mv (.t 5), [], (.new [])⟩,
   ⟨(some 11), none, .bin .add (.t 10) (kI 1), [], (.new [])⟩,
   ⟨(some 5), none, .mv (.t 11), [], (.new [])⟩])))))))
 (.seq (.reg [⟨(some 4), none, .mv (kB false), [], (.new [])⟩])
 .ret)))⟩
theorem a31_ok : afn Try.prog 31 = some a31.er := by kernel_rfl
theorem F31_ok {x0 : (List Taint)} {x1 : Taint} {r : Bool} (h : F31 x0 x1 = some r) : CallD Try.prog 31 [.c (.d (.sl (x0.map eTaint))), .agg [.d (.v (.string x1.Key)), .d (.v (.string x1.Value)), .d (.v (.int .i64 x1.Effect)), .d (.v (.int .i64 x1.Since))]] [] (tupV [.c (.d (.v (.bool r)))]) [] := by
  refine callS a31_ok (by simp [a31]) ?_
  rw [F31] at h
  simp only [a31, VW.down, Nat.reduceEqDiff, reduceCtorEq, Nat.reduceAdd, Nat.reduceLeDiff, Nat.reduceLT, Nat.reduceBEq, Nat.reduceSub, EE.down]
  obtain ⟨o1, ho, h⟩ := Option.bind_eq_some_iff.1 h
  refine cutS (fun s => ∃ po1, o1 = Sum.inr po1 ∧ s = ⟨[], []⟩) ?_ ?_
  · have h0o1 := h
    have h := ho
    clear ho
    obtain ⟨_, hk, h⟩ := Option.bind_eq_some_iff.1 h
    have hk := ck_some hk
    simp only [VW.down, Nat.reduceEqDiff, reduceCtorEq, Nat.reduceAdd, Nat.reduceLeDiff, Nat.reduceLT, Nat.reduceBEq, Nat.reduceSub, EE.down]
    refine bL (fun j s => ∃ (o1_0 : Nat), (o1_0 ≤ x0.length ∧ j = x0.length - o1_0) ∧ s = ⟨[(0, .one (.c (.d (.sl (x0.map eTaint))))), (3, .one (.c (.pt 0 0))), (5, .one (.c (.d (.v (.int .i64 ((o1_0 : Int)))))))], [some (.box [.d (.v (.string x1.Key)), .d (.v (.string x1.Value)), .d (.v (.int .i64 x1.Effect)), .d (.v (.int .i64 x1.Since))])]⟩ ∧ F31_l1 x1 (x0.drop o1_0) o1_0 = some o1) (x0.length - 0) [some 0] ⟨0, ⟨hk.1, rfl⟩, rfl, h⟩ ?_
    rintro _ _ ⟨o1_0, ⟨hi, rfl⟩, rfl, h⟩
    simp only [VW.down, Nat.reduceEqDiff, reduceCtorEq, Nat.reduceAdd, Nat.reduceLeDiff, Nat.reduceLT, Nat.reduceBEq, Nat.reduceSub, EE.down]
    refine condS (fun c2 => ?_) (fun c2 => ?_)
    · obtain ⟨xo1, hxo1, hd⟩ := countY (show (o1_0 : Int) < (x0.length : Int) from c2)
      rw [hd, F31_l1] at h
      simp only [VW.down, Nat.reduceEqDiff, reduceCtorEq, Nat.reduceAdd, Nat.reduceLeDiff, Nat.reduceLT, Nat.reduceBEq, Nat.reduceSub, EE.down]
      obtain ⟨o3, ho, h⟩ := Option.bind_eq_some_iff.1 h
      refine cutS (fun s => s = ⟨[(0, .one (.c (.d (.sl (x0.map eTaint))))), (3, .one (.c (.pt 0 0))), (5, .one (.c (.d (.v (.int .i64 ((o1_0 : Int))))))), (39, .one (.c (.d (.v (.bool o3)))))], [some (.box [.d (.v (.string x1.Key)), .d (.v (.string x1.Value)), .d (.v (.int .i64 x1.Effect)), .d (.v (.int .i64 x1.Since))])]⟩) ?_ ?_
      · have h := ho
        clear ho
        simp only [VW.down, Nat.reduceEqDiff, reduceCtorEq, Nat.reduceAdd, Nat.reduceLeDiff, Nat.reduceLT, Nat.reduceBEq, Nat.reduceSub, EE.down]
        refine t_idxF (enc := eTaint) (xs := x0) rfl rfl hxo1 rfl ?_
        simp only [VW.down, Nat.reduceEqDiff, reduceCtorEq, Nat.reduceAdd, Nat.reduceLeDiff, Nat.reduceLT, Nat.reduceBEq, Nat.reduceSub, EE.down]
        refine guardD (fun g4 => ?_) (fun g4 => ?_)
        · have h := (if_pos g4).symm.trans h
          simp only [VW.down, Nat.reduceEqDiff, reduceCtorEq, Nat.reduceAdd, Nat.reduceLeDiff, Nat.reduceLT, Nat.reduceBEq, Nat.reduceSub, EE.down]
          refine t_idxF (enc := eTaint) (xs := x0) rfl rfl hxo1 rfl ?_
          simp only [VW.down, Nat.reduceEqDiff, reduceCtorEq, Nat.reduceAdd, Nat.reduceLeDiff, Nat.reduceLT, Nat.reduceBEq, Nat.reduceSub, EE.down]
          refine guardD (fun g5 => ?_) (fun g5 => ?_)
          · have h := (if_pos g5).symm.trans h
            simp only [VW.down, Nat.reduceEqDiff, reduceCtorEq, Nat.reduceAdd, Nat.reduceLeDiff, Nat.reduceLT, Nat.reduceBEq, Nat.reduceSub, EE.down]
            refine t_idxF (enc := eTaint) (xs := x0) rfl rfl hxo1 rfl ?_
            simp only [VW.down, Nat.reduceEqDiff, reduceCtorEq, Nat.reduceAdd, Nat.reduceLeDiff, Nat.reduceLT, Nat.reduceBEq, Nat.reduceSub, EE.down]
            obtain rfl := Option.some.inj h
            exact eM [some 0] rfl
          · have h := (if_neg g5).symm.trans h
            simp only [VW.down, Nat.reduceEqDiff, reduceCtorEq, Nat.reduceAdd, Nat.reduceLeDiff, Nat.reduceLT, Nat.reduceBEq, Nat.reduceSub, EE.down]
            obtain rfl := Option.some.inj h
            exact eM [some 0] rfl
        · have h := (if_neg g4).symm.trans h
          simp only [VW.down, Nat.reduceEqDiff, reduceCtorEq, Nat.reduceAdd, Nat.reduceLeDiff, Nat.reduceLT, Nat.reduceBEq, Nat.reduceSub, EE.down]
          obtain rfl := Option.some.inj h
          exact eM [some 0] rfl
      · rintro _ rfl
        clear ho
        simp only [VW.down, Nat.reduceEqDiff, reduceCtorEq, Nat.reduceAdd, Nat.reduceLeDiff, Nat.reduceLT, Nat.reduceBEq, Nat.reduceSub, EE.down]
        refine condB (fun c6 => ?_) (fun c6 => ?_)
        · have h := (if_pos c6).symm.trans h
          simp only [VW.down, Nat.reduceEqDiff, reduceCtorEq, Nat.reduceAdd, Nat.reduceLeDiff, Nat.reduceLT, Nat.reduceBEq, Nat.reduceSub, EE.down]
          obtain ⟨fh0o1, hfh0o1, rfl⟩ := Option.map_eq_some_iff.1 h
          have h := hfh0o1.trans h0o1
          obtain rfl := Option.some.inj h
          exact eF []
        · have h := (if_neg c6).symm.trans h
          simp only [VW.down, Nat.reduceEqDiff, reduceCtorEq, Nat.reduceAdd, Nat.reduceLeDiff, Nat.reduceLT, Nat.reduceBEq, Nat.reduceSub, EE.down]
          rw [wrapN (by omega)]
          exact eL' (x0.length - (o1_0 + 1)) [some 0] ⟨o1_0 + 1, ⟨by omega, rfl⟩, rfl, h⟩ (by omega)
    · rw [countN (show ¬ ((o1_0 : Int) < (x0.length : Int)) from c2), F31_l1] at h
      simp only [VW.down, Nat.reduceEqDiff, reduceCtorEq, Nat.reduceAdd, Nat.reduceLeDiff, Nat.reduceLT, Nat.reduceBEq, Nat.reduceSub, EE.down]
      obtain rfl := Option.some.inj h
      exact eM [] ⟨_, rfl, rfl⟩
  · rintro _ ⟨po1, rfl, rfl⟩
    clear ho
    dsimp only at h
    simp only [VW.down, Nat.reduceEqDiff, reduceCtorEq, Nat.reduceAdd, Nat.reduceLeDiff, Nat.reduceLT, Nat.reduceBEq, Nat.reduceSub, EE.down]
    obtain rfl := Option.some.inj h
    exact eF []

/- orchestrator/orchestratorref54.Managed -/
def F30 (x0 : Taint) : Option (Bool) := (F29 true true true 0).bind fun t1 => (F31 t1 x0).bind fun t2 => some t2
def a30 : AFn := ⟨6, [(.tmp 2)],
 (.seq (.reg [⟨(some 1), none, .box (.t 0), [], (.new [])⟩,
   ⟨(some 2), none, .mv (kB false), [], (.new [])⟩])
 (.seq (.regd [⟨(some 3), none, .call 29 [(kB true), (kB true), (kB true), (kI 0)], [], (.new [])⟩,
   ⟨(some 4), none, .load (some 4) (.t 1), [], (.new [])⟩,
   ⟨(some 5), none, .call 31 [(.t 3), (.t 4)], [0, 1], (.lone [])⟩,
   ⟨(some 2), none, .mv (.t 5), [0, 1, 2], (.new [])⟩])
 .ret))⟩
theorem a30_ok : afn Try.prog 30 = some a30.er := by kernel_rfl
theorem F30_ok {x0 : Taint} {r : Bool} (h : F30 x0 = some r) : CallD Try.prog 30 [.agg [.d (.v (.string x0.Key)), .d (.v (.string x0.Value)), .d (.v (.int .i64 x0.Effect)), .d (.v (.int .i64 x0.Since))]] [] (tupV [.c (.d (.v (.bool r)))]) [] := by
  refine callS a30_ok (by simp [a30]) ?_
  rw [F30] at h
  simp only [a30, VW.down, Nat.reduceEqDiff, reduceCtorEq, Nat.reduceAdd, Nat.reduceLeDiff, Nat.reduceLT, Nat.reduceBEq, Nat.reduceSub, EE.down]
  obtain ⟨t1, ht1, h⟩ := Option.bind_eq_some_iff.1 h
  refine callX_n [] (F29_ok ht1) ?_ ?_ ?_ ?_ ?_ ?_
  · first | rfl | simp [nrmA, nrmC, nrm, A1.ren, C.ren, rn, List.length_set]
  · simp [liveAll, A1.live, C.live]
  · rfl
  · decide
  · exact trivial
  simp only [VW.down, Nat.reduceEqDiff, reduceCtorEq, Nat.reduceAdd, Nat.reduceLeDiff, Nat.reduceLT, Nat.reduceBEq, Nat.reduceSub, EE.down]
  refine kD_new (by simp [wrs, allW, hset]) ?_
  simp only [VW.down, Nat.reduceEqDiff, reduceCtorEq, Nat.reduceAdd, Nat.reduceLeDiff, Nat.reduceLT, Nat.reduceBEq, Nat.reduceSub, EE.down]
  obtain ⟨t2, ht2, h⟩ := Option.bind_eq_some_iff.1 h
  refine callX_bor (F31_ok ht2) (by simp only [borAs, bors, hp, List.getElem?_cons_zero, List.getElem?_cons_succ, Option.join_some, List.drop_zero, bor_full', true_and, Nat.zero_add, List.length_map, Nat.le_refl, nrm, List.length_cons, List.length_nil, Nat.reduceAdd, Nat.reduceLeDiff, List.take_succ_cons, List.take_zero, List.take_nil, List.map_cons, List.map_nil, List.length_set, EE.down]) rfl ?_
  simp only [VW.down, Nat.reduceEqDiff, reduceCtorEq, Nat.reduceAdd, Nat.reduceLeDiff, Nat.reduceLT, Nat.reduceBEq, Nat.reduceSub, EE.down]
  obtain rfl := Option.some.inj h
  exact eF []

/- orchestrator/orchestratorref54.counts -/
def F39_l5  : List Taint → Nat → (List Taint) → Option ((List Taint))
  | [], o5_1, o5_0 => some o5_0
  | xo5 :: xs, o5_1, o5_0 => (((F30 xo5).bind fun t8 => (if (nb t8) = true then (apI o5_0 ([xo5])).bind fun a10 => some a10 else some o5_0)).bind fun o7 => F39_l5  xs (o5_1 + 1) o7)
def F39 (x0 : (List Taint)) (x1 : Pod) : Option ((List Taint)) := (F63 x1.Meta).bind fun t1 => (((if (nb t1.2) = true then some true else some (decide (¬ ((t1.1).Kind = (⟨#[68, 97, 101, 109, 111, 110, 83, 101, 116]⟩ : ByteArray)))))).bind fun o2 => (if o2 = true then some x0 else (((ck (0 ≤ x0.length ∧ x0.length ≤ 4294967290)).bind fun u11 => F39_l5 x0 0 ([])).bind fun o5 => some o5)))
def a39 : AFn := ⟨43, [(.tmp 4)],
 (.seq (.reg [⟨(some 3), none, .box (.t 1), [], (.new [])⟩,
   ⟨(some 4), none, .mv kN, [], (.new [])⟩])
 (.seq (.reg [⟨(some 10), none, .fieldA 0 (.t 3), [], (.new [])⟩,
   ⟨(some 11), none, .load (some 13) (.t 10), [], (.new [])⟩,
   ⟨(some 12), none, .call 63 [(.t 11)], [], (.new [])⟩,
   ⟨(some 9), none, .mv (.t 12), [], (.new [])⟩,
   ⟨(some 13), none, .ext (.t 9) 0, [], (.new [])⟩,
   ⟨(some 14), none, .ext (.t 9) 1, [], (.new [])⟩,
   ⟨(some 5), none, .zbox [.d (.v (.string ⟨#[]⟩)), .d (.v (.string ⟨#[]⟩)), .d (.v (.int .i64 0)), .d (.v (.bool false)), .d (.v (.bool false))], [], (.new [])⟩,
   ⟨none, none, .store 5 (.t 5) (.t 13), [], (.new [])⟩,
   ⟨(some 6), none, .mv (.t 14), [], (.new [])⟩])
 (.seq (.seq (.sem (.reg [⟨(some 15), none, .mv (.t 6), [], (.new [])⟩,
   ⟨(some 16), none, .not (.t 15), [], (.new [])⟩,
   ⟨(some 17), none, .mv (.t 16), [], (.new [])⟩,
   ⟨(some 18), (some (17, false)), .fieldA 0 (.t 5), [], (.new [])⟩,
   ⟨(some 19), (some (17, false)), .load none (.t 18), [], (.new [])⟩,
   ⟨(some 20), (some (17, false)), .bin .neq (.t 19) (kS ⟨#[68, 97, 101, 109, 111, 110, 83, 101, 116]⟩), [], (.new [])⟩,
   ⟨(some 21), none, .pick (.t 17) (kB true) (.t 20), [], (.lone [5, 18])⟩]))
 (.cond (.t 21)
 (.seq (.reg [⟨(some 22), none, .mv (.t 0), [], (.new [])⟩,
   ⟨(some 4), none, .mv (.t 22), [], (.new [])⟩])
 .ret)
 .skip))
 (.seq (.reg [⟨(some 7), none, .mv kN, [], (.new [])⟩])
 (.seq (.seq (.reg [⟨(some 8), none, .mv (kI 0), [], (.new [])⟩])
 (.sem (.block 0 (.loop (.seq (.seq (.reg [⟨(some 23), none, .mv (.t 8), [], (.new [])⟩,
   ⟨(some 24), none, .mv (.t 0), [], (.new [])⟩,
   ⟨(some 25), none, .len (.t 24), [], (.new [])⟩,
   ⟨(some 26), none, .bin .lss (.t 23) (.t 25), [], (.new [])⟩])
 (.cond (.t 26)
 .skip
 (.exit 0)))
 (.seq (.sem (.block 1 (.seq (.reg [⟨(some 29), none, .mv (.t 0), [], (.new [])⟩,
   ⟨(some 30), none, .mv (.t 8), [], (.new [])⟩,
   ⟨(some 31), none, .indexA 4 (.t 29) (.t 30), [], (.new [])⟩,
   ⟨(some 32), none, .load (some 4) (.t 31), [], (.new [])⟩,
   ⟨(some 33), none, .call 30 [(.t 32)], [], (.new [])⟩,
   ⟨(some 34), none, .not (.t 33), [], (.new [])⟩])
 (.cond (.t 34)
 (.reg [⟨(some 35), none, .mv (.t 7), [], (.new [])⟩,
   ⟨(some 36), none, .mv (.t 0), [], (.new [])⟩,
   ⟨(some 37), none, .mv (.t 8), [], (.new [])⟩,
   ⟨(some 38), none, .indexA 4 (.t 36) (.t 37), [], (.new [])⟩,
   ⟨(some 39), none, .load (some 4) (.t 38), [], (.new [])⟩,
   ⟨(some 40), none, .bslice 4 [(.t 39)], [], (.new [])⟩,
   ⟨(some 41), none, .app 4 48 (.t 35) (.t 40), [], (.new [])⟩,
   ⟨(some 7), none, .mv (.t 41), [], (.new [])⟩])
 .skip))))
 (.reg [⟨(some 27), none, .mv (.t 8), [], (.new [])⟩,
   ⟨(some 28), none, .bin .add (.t 27) (kI 1), [], (.new [])⟩,
   ⟨(some 8), none, .mv (.t 28), [], (.new [])⟩])))))))
 (.seq (.reg [⟨(some 42), none, .mv (.t 7), [], (.new [])⟩,
   ⟨(some 4), none, .mv (.t 42), [], (.new [])⟩])
 .ret))))))⟩
theorem a39_ok : afn Try.prog 39 = some a39.er := by kernel_rfl
theorem F39_ok {x0 : (List Taint)} {x1 : Pod} {r : (List Taint)} (h : F39 x0 x1 = some r) : CallD Try.prog 39 [.c (.d (.sl (x0.map eTaint))), .agg [.d (.v (.string x1.Meta.Kind)), .d (.v (.string x1.Meta.Namespace)), .d (.v (.string x1.Meta.Name)), .d (.v (.int .i64 x1.Meta.Uid)), .d (.v (.int .i64 x1.Meta.Version)), .d (.v (.int .i64 x1.Meta.Generation)), .d (.v (.int .i64 x1.Meta.Created)), .d (.v (.bool x1.Meta.Deleting)), .d (.v (.int .i64 x1.Meta.DeleteAt)), .d (.sl (x1.Meta.Labels.map eLabel)), .d (.sl (x1.Meta.Owners.map eOwner)), .d (.sl (x1.Meta.Finalizers.map eS)), .d (.sl (x1.Meta.Managers.map eManager)), .d (.v (.string x1.Spec.Node)), .d (.v (.int .i64 x1.Spec.Priority)), .d (.v (.int .i64 x1.Spec.Restart)), .d (.v (.int .i64 x1.Spec.Grace)), .d (.sl (x1.Spec.Containers.map eContainer)), .d (.sl (x1.Spec.NodeSelector.map eRequirement)), .d (.sl (x1.Spec.NodeTerms.map eNodeTerm)), .d (.sl (x1.Spec.PodTerms.map ePodTerm)), .d (.sl (x1.Spec.Spread.map eSpreadRule)), .d (.sl (x1.Spec.Tolerations.map eToleration)), .d (.v (.int .i64 x1.Status.Phase)), .d (.v (.bool x1.Status.Ready)), .d (.v (.int .i64 x1.Status.ReadySince)), .d (.v (.int .i64 x1.Status.Started)), .d (.v (.int .i64 x1.Status.Finished)), .d (.sl (x1.Status.Containers.map eContainerStatus)), .d (.v (.int .i64 x1.Status.Address)), .d (.v (.string x1.Status.Nominated)), .d (.v (.string x1.Status.Reason))]] [] (tupV [.c (.d (.sl (r.map eTaint)))]) [] := by
  refine callS a39_ok (by simp [a39]) ?_
  rw [F39] at h
  simp only [a39, VW.down, Nat.reduceEqDiff, reduceCtorEq, Nat.reduceAdd, Nat.reduceLeDiff, Nat.reduceLT, Nat.reduceBEq, Nat.reduceSub, EE.down]
  obtain ⟨t1, ht1, h⟩ := Option.bind_eq_some_iff.1 h
  refine callX_n [] (F63_ok ht1) ?_ ?_ ?_ ?_ ?_ ?_
  · first | rfl | simp [nrmA, nrmC, nrm, A1.ren, C.ren, rn, List.length_set]
  · simp [liveAll, A1.live, C.live]
  · rfl
  · decide
  · exact trivial
  simp only [VW.down, Nat.reduceEqDiff, reduceCtorEq, Nat.reduceAdd, Nat.reduceLeDiff, Nat.reduceLT, Nat.reduceBEq, Nat.reduceSub, EE.down]
  obtain ⟨o2, ho, h⟩ := Option.bind_eq_some_iff.1 h
  refine cutS (fun s => s = ⟨[(0, .one (.c (.d (.sl (x0.map eTaint))))), (21, .one (.c (.d (.v (.bool o2)))))], []⟩) ?_ ?_
  · have h := ho
    clear ho
    simp only [VW.down, Nat.reduceEqDiff, reduceCtorEq, Nat.reduceAdd, Nat.reduceLeDiff, Nat.reduceLT, Nat.reduceBEq, Nat.reduceSub, EE.down]
    refine guardSB (fun g3 => ?_) (fun g3 => ?_)
    · have h := (if_pos g3).symm.trans h
      simp only [VW.down, Nat.reduceEqDiff, reduceCtorEq, Nat.reduceAdd, Nat.reduceLeDiff, Nat.reduceLT, Nat.reduceBEq, Nat.reduceSub, EE.down]
      obtain rfl := Option.some.inj h
      exact eM [] rfl
    · have h := (if_neg g3).symm.trans h
      simp only [VW.down, Nat.reduceEqDiff, reduceCtorEq, Nat.reduceAdd, Nat.reduceLeDiff, Nat.reduceLT, Nat.reduceBEq, Nat.reduceSub, EE.down]
      obtain rfl := Option.some.inj h
      exact eM [] rfl
  · rintro _ rfl
    clear ho
    simp only [VW.down, Nat.reduceEqDiff, reduceCtorEq, Nat.reduceAdd, Nat.reduceLeDiff, Nat.reduceLT, Nat.reduceBEq, Nat.reduceSub, EE.down]
    refine condB (fun c4 => ?_) (fun c4 => ?_)
    · have h := (if_pos c4).symm.trans h
      simp only [VW.down, Nat.reduceEqDiff, reduceCtorEq, Nat.reduceAdd, Nat.reduceLeDiff, Nat.reduceLT, Nat.reduceBEq, Nat.reduceSub, EE.down]
      obtain rfl := Option.some.inj h
      exact eF []
    · have h := (if_neg c4).symm.trans h
      simp only [VW.down, Nat.reduceEqDiff, reduceCtorEq, Nat.reduceAdd, Nat.reduceLeDiff, Nat.reduceLT, Nat.reduceBEq, Nat.reduceSub, EE.down]
      obtain ⟨o5, ho, h⟩ := Option.bind_eq_some_iff.1 h
      refine cutS (fun s => s = ⟨[(7, .one (.c (.own 0 0 0 (o5.length) none)))], [some (.arr 0 4 (o5.map eTaint))]⟩) ?_ ?_
      · have h := ho
        clear ho
        obtain ⟨_, hk, h⟩ := Option.bind_eq_some_iff.1 h
        have hk := ck_some hk
        simp only [VW.down, Nat.reduceEqDiff, reduceCtorEq, Nat.reduceAdd, Nat.reduceLeDiff, Nat.reduceLT, Nat.reduceBEq, Nat.reduceSub, EE.down]
        refine bL (fun j s => ∃ (o5_1 : Nat) (o5_0 : List Taint), (o5_1 ≤ x0.length ∧ j = x0.length - o5_1) ∧ s = ⟨[(0, .one (.c (.d (.sl (x0.map eTaint))))), (7, .one (.c (.own 0 0 0 (o5_0.length) none))), (8, .one (.c (.d (.v (.int .i64 ((o5_1 : Int)))))))], [some (.arr 0 4 (o5_0.map eTaint))]⟩ ∧ F39_l5 (x0.drop o5_1) o5_1 o5_0 = some o5) (x0.length - 0) [none] ⟨0, [], ⟨hk.1, rfl⟩, rfl, h⟩ ?_
        rintro _ _ ⟨o5_1, o5_0, ⟨hi, rfl⟩, rfl, h⟩
        simp only [VW.down, Nat.reduceEqDiff, reduceCtorEq, Nat.reduceAdd, Nat.reduceLeDiff, Nat.reduceLT, Nat.reduceBEq, Nat.reduceSub, EE.down]
        refine condS (fun c6 => ?_) (fun c6 => ?_)
        · obtain ⟨xo5, hxo5, hd⟩ := countY (show (o5_1 : Int) < (x0.length : Int) from c6)
          rw [hd, F39_l5] at h
          simp only [VW.down, Nat.reduceEqDiff, reduceCtorEq, Nat.reduceAdd, Nat.reduceLeDiff, Nat.reduceLT, Nat.reduceBEq, Nat.reduceSub, EE.down]
          obtain ⟨o7, ho, h⟩ := Option.bind_eq_some_iff.1 h
          refine cutS (fun s => s = ⟨[(0, .one (.c (.d (.sl (x0.map eTaint))))), (7, .one (.c (.own 0 0 0 (o7.length) none))), (8, .one (.c (.d (.v (.int .i64 ((o5_1 : Int)))))))], [some (.arr 0 4 (o7.map eTaint))]⟩) ?_ ?_
          · have h := ho
            clear ho
            simp only [VW.down, Nat.reduceEqDiff, reduceCtorEq, Nat.reduceAdd, Nat.reduceLeDiff, Nat.reduceLT, Nat.reduceBEq, Nat.reduceSub, EE.down]
            refine t_idxF (enc := eTaint) (xs := x0) rfl rfl hxo5 rfl ?_
            simp only [VW.down, Nat.reduceEqDiff, reduceCtorEq, Nat.reduceAdd, Nat.reduceLeDiff, Nat.reduceLT, Nat.reduceBEq, Nat.reduceSub, EE.down]
            obtain ⟨t8, ht8, h⟩ := Option.bind_eq_some_iff.1 h
            refine callX_n [] (F30_ok ht8) ?_ ?_ ?_ ?_ ?_ ?_
            · first | rfl | simp [nrmA, nrmC, nrm, A1.ren, C.ren, rn, List.length_set]
            · simp [liveAll, A1.live, C.live]
            · rfl
            · decide
            · exact trivial
            simp only [VW.down, Nat.reduceEqDiff, reduceCtorEq, Nat.reduceAdd, Nat.reduceLeDiff, Nat.reduceLT, Nat.reduceBEq, Nat.reduceSub, EE.down]
            refine condB (fun c9 => ?_) (fun c9 => ?_)
            · have h := (if_pos c9).symm.trans h
              simp only [VW.down, Nat.reduceEqDiff, reduceCtorEq, Nat.reduceAdd, Nat.reduceLeDiff, Nat.reduceLT, Nat.reduceBEq, Nat.reduceSub, EE.down]
              refine t_idxF (enc := eTaint) (xs := x0) rfl rfl hxo5 rfl ?_
              simp only [VW.down, Nat.reduceEqDiff, reduceCtorEq, Nat.reduceAdd, Nat.reduceLeDiff, Nat.reduceLT, Nat.reduceBEq, Nat.reduceSub, EE.down]
              refine t_bslice (enc := eTaint) (ys := [xo5]) rfl rfl (by simp [A1.cells]) (by first | rfl | (simp only [List.drop_zero, take_mapL]; rfl)) ?_
              simp only [VW.down, Nat.reduceEqDiff, reduceCtorEq, Nat.reduceAdd, Nat.reduceLeDiff, Nat.reduceLT, Nat.reduceBEq, Nat.reduceSub, EE.down]
              obtain ⟨a10, ha10, h⟩ := Option.bind_eq_some_iff.1 h
              refine t_app (enc := eTaint) (xs := o5_0) rfl rfl (by first | rfl | simp only [List.length_set] | exact (clrL_len (slI_len (by assumption))).symm) rfl (rows_full (enc := eTaint) (by first | rfl | simp only [List.length_set] | exact (clrL_len (slI_len (by assumption))).symm) rfl) ha10 ?_
              simp only [VW.down, Nat.reduceEqDiff, reduceCtorEq, Nat.reduceAdd, Nat.reduceLeDiff, Nat.reduceLT, Nat.reduceBEq, Nat.reduceSub, EE.down]
              obtain rfl := Option.some.inj h
              exact eM [some 0] rfl
            · have h := (if_neg c9).symm.trans h
              simp only [VW.down, Nat.reduceEqDiff, reduceCtorEq, Nat.reduceAdd, Nat.reduceLeDiff, Nat.reduceLT, Nat.reduceBEq, Nat.reduceSub, EE.down]
              obtain rfl := Option.some.inj h
              exact eM [some 0] rfl
          · rintro _ rfl
            clear ho
            simp only [VW.down, Nat.reduceEqDiff, reduceCtorEq, Nat.reduceAdd, Nat.reduceLeDiff, Nat.reduceLT, Nat.reduceBEq, Nat.reduceSub, EE.down]
            rw [wrapN (by omega)]
            exact eL' (x0.length - (o5_1 + 1)) [some 0] ⟨o5_1 + 1, o7, ⟨by omega, rfl⟩, rfl, h⟩ (by omega)
        · rw [countN (show ¬ ((o5_1 : Int) < (x0.length : Int)) from c6), F39_l5] at h
          simp only [VW.down, Nat.reduceEqDiff, reduceCtorEq, Nat.reduceAdd, Nat.reduceLeDiff, Nat.reduceLT, Nat.reduceBEq, Nat.reduceSub, EE.down]
          obtain rfl := Option.some.inj h
          exact eM [some 0] rfl
      · rintro _ rfl
        clear ho
        simp only [VW.down, Nat.reduceEqDiff, reduceCtorEq, Nat.reduceAdd, Nat.reduceLeDiff, Nat.reduceLT, Nat.reduceBEq, Nat.reduceSub, EE.down]
        obtain rfl := Option.some.inj h
        exact eF []

/- orchestrator/orchestratorref35.Tolerates -/
def F82 (x0 : Toleration) (x1 : Taint) : Option (Bool) := (((if x0.Key = (⟨#[]⟩ : ByteArray) then (if x0.Exists = true then (if x0.Effect = 0 then some true else some (decide (x0.Effect = x1.Effect))) else (if x0.Value = x1.Value then (if x0.Effect = 0 then some true else some (decide (x0.Effect = x1.Effect))) else some false)) else (if x0.Key = x1.Key then (if x0.Exists = true then (if x0.Effect = 0 then some true else some (decide (x0.Effect = x1.Effect))) else (if x0.Value = x1.Value then (if x0.Effect = 0 then some true else some (decide (x0.Effect = x1.Effect))) else some false)) else some false))).bind fun o1 => some o1)
def a82 : AFn := ⟨38, [(.tmp 4)],
 (.seq (.reg [⟨(some 2), none, .box (.t 0), [], (.new [])⟩,
   ⟨(some 3), none, .box (.t 1), [], (.new [])⟩,
   ⟨(some 4), none, .mv (kB false), [], (.new [])⟩])
 (.seq (.sem (.reg [⟨(some 5), none, .fieldA 0 (.t 2), [], (.new [])⟩,
   ⟨(some 6), none, .load none (.t 5), [], (.new [])⟩,
   ⟨(some 7), none, .bin .eql (.t 6) (kS ⟨#[]⟩), [], (.new [])⟩,
   ⟨(some 8), none, .mv (.t 7), [], (.new [])⟩,
   ⟨(some 9), (some (8, false)), .fieldA 0 (.t 2), [], (.new [])⟩,
   ⟨(some 10), (some (8, false)), .load none (.t 9), [], (.new [])⟩,
   ⟨(some 11), (some (8, false)), .fieldA 0 (.t 3), [], (.new [])⟩,
   ⟨(some 12), (some (8, false)), .load none (.t 11), [], (.new [])⟩,
   ⟨(some 13), (some (8, false)), .bin .eql (.t 10) (.t 12), [], (.new [])⟩,
   ⟨(some 14), none, .pick (.t 8) (kB true) (.t 13), [], (.new [])⟩,
   ⟨(some 15), none, .mv (.t 14), [], (.new [])⟩,
   ⟨(some 16), (some (15, true)), .fieldA 2 (.t 2), [], (.new [])⟩,
   ⟨(some 17), (some (15, true)), .load none (.t 16), [], (.new [])⟩,
   ⟨(some 18), (some (15, true)), .mv (.t 17), [], (.new [])⟩,
   ⟨(some 19), (some (18, false)), .fieldA 1 (.t 2), [], (.new [])⟩,
   ⟨(some 20), (some (18, false)), .load none (.t 19), [], (.new [])⟩,
   ⟨(some 21), (some (18, false)), .fieldA 1 (.t 3), [], (.new [])⟩,
   ⟨(some 22), (some (18, false)), .load none (.t 21), [], (.new [])⟩,
   ⟨(some 23), (some (18, false)), .bin .eql (.t 20) (.t 22), [], (.new [])⟩,
   ⟨(some 24), (some (15, true)), .pick (.t 18) (kB true) (.t 23), [], (.new [])⟩,
   ⟨(some 25), none, .pick (.t 15) (.t 24) (kB false), [], (.new [])⟩,
   ⟨(some 26), none, .mv (.t 25), [], (.new [])⟩,
   ⟨(some 27), (some (26, true)), .fieldA 3 (.t 2), [], (.new [])⟩,
   ⟨(some 28), (some (26, true)), .load none (.t 27), [], (.new [])⟩,
   ⟨(some 29), (some (26, true)), .bin .eql (.t 28) (kI 0), [], (.new [])⟩,
   ⟨(some 30), (some (26, true)), .mv (.t 29), [], (.new [])⟩,
   ⟨(some 31), (some (30, false)), .fieldA 3 (.t 2), [], (.new [])⟩,
   ⟨(some 32), (some (30, false)), .load none (.t 31), [], (.new [])⟩,
   ⟨(some 33), (some (30, false)), .fieldA 2 (.t 3), [], (.new [])⟩,
   ⟨(some 34), (some (30, false)), .load none (.t 33), [], (.new [])⟩,
   ⟨(some 35), (some (30, false)), .bin .eql (.t 32) (.t 34), [], (.new [])⟩,
   ⟨(some 36), (some (26, true)), .pick (.t 30) (kB true) (.t 35), [], (.new [])⟩,
   ⟨(some 37), none, .pick (.t 26) (.t 36) (kB false), [], (.new [])⟩,
   ⟨(some 4), none, .mv (.t 37), [], (.new [])⟩]))
 .ret))⟩
theorem a82_ok : afn Try.prog 82 = some a82.er := by kernel_rfl
theorem F82_ok {x0 : Toleration} {x1 : Taint} {r : Bool} (h : F82 x0 x1 = some r) : CallD Try.prog 82 [.agg [.d (.v (.string x0.Key)), .d (.v (.string x0.Value)), .d (.v (.bool x0.Exists)), .d (.v (.int .i64 x0.Effect)), .d (.v (.int .i64 x0.Seconds))], .agg [.d (.v (.string x1.Key)), .d (.v (.string x1.Value)), .d (.v (.int .i64 x1.Effect)), .d (.v (.int .i64 x1.Since))]] [] (tupV [.c (.d (.v (.bool r)))]) [] := by
  refine callS a82_ok (by simp [a82]) ?_
  rw [F82] at h
  simp only [a82, VW.down, Nat.reduceEqDiff, reduceCtorEq, Nat.reduceAdd, Nat.reduceLeDiff, Nat.reduceLT, Nat.reduceBEq, Nat.reduceSub, EE.down]
  obtain ⟨o1, ho, h⟩ := Option.bind_eq_some_iff.1 h
  refine cutS (fun s => s = ⟨[(4, .one (.c (.d (.v (.bool o1)))))], []⟩) ?_ ?_
  · have h := ho
    clear ho
    simp only [VW.down, Nat.reduceEqDiff, reduceCtorEq, Nat.reduceAdd, Nat.reduceLeDiff, Nat.reduceLT, Nat.reduceBEq, Nat.reduceSub, EE.down]
    refine guardS (fun g2 => ?_) (fun g2 => ?_)
    · have h := (if_pos g2).symm.trans h
      simp only [VW.down, Nat.reduceEqDiff, reduceCtorEq, Nat.reduceAdd, Nat.reduceLeDiff, Nat.reduceLT, Nat.reduceBEq, Nat.reduceSub, EE.down]
      refine guardSB (fun g3 => ?_) (fun g3 => ?_)
      · have h := (if_pos g3).symm.trans h
        simp only [VW.down, Nat.reduceEqDiff, reduceCtorEq, Nat.reduceAdd, Nat.reduceLeDiff, Nat.reduceLT, Nat.reduceBEq, Nat.reduceSub, EE.down]
        refine guardS (fun g4 => ?_) (fun g4 => ?_)
        · have h := (if_pos g4).symm.trans h
          simp only [VW.down, Nat.reduceEqDiff, reduceCtorEq, Nat.reduceAdd, Nat.reduceLeDiff, Nat.reduceLT, Nat.reduceBEq, Nat.reduceSub, EE.down]
          obtain rfl := Option.some.inj h
          exact eM [] rfl
        · have h := (if_neg g4).symm.trans h
          simp only [VW.down, Nat.reduceEqDiff, reduceCtorEq, Nat.reduceAdd, Nat.reduceLeDiff, Nat.reduceLT, Nat.reduceBEq, Nat.reduceSub, EE.down]
          obtain rfl := Option.some.inj h
          exact eM [] rfl
      · have h := (if_neg g3).symm.trans h
        simp only [VW.down, Nat.reduceEqDiff, reduceCtorEq, Nat.reduceAdd, Nat.reduceLeDiff, Nat.reduceLT, Nat.reduceBEq, Nat.reduceSub, EE.down]
        refine guardS (fun g5 => ?_) (fun g5 => ?_)
        · have h := (if_pos g5).symm.trans h
          simp only [VW.down, Nat.reduceEqDiff, reduceCtorEq, Nat.reduceAdd, Nat.reduceLeDiff, Nat.reduceLT, Nat.reduceBEq, Nat.reduceSub, EE.down]
          refine guardS (fun g6 => ?_) (fun g6 => ?_)
          · have h := (if_pos g6).symm.trans h
            simp only [VW.down, Nat.reduceEqDiff, reduceCtorEq, Nat.reduceAdd, Nat.reduceLeDiff, Nat.reduceLT, Nat.reduceBEq, Nat.reduceSub, EE.down]
            obtain rfl := Option.some.inj h
            exact eM [] rfl
          · have h := (if_neg g6).symm.trans h
            simp only [VW.down, Nat.reduceEqDiff, reduceCtorEq, Nat.reduceAdd, Nat.reduceLeDiff, Nat.reduceLT, Nat.reduceBEq, Nat.reduceSub, EE.down]
            obtain rfl := Option.some.inj h
            exact eM [] rfl
        · have h := (if_neg g5).symm.trans h
          simp only [VW.down, Nat.reduceEqDiff, reduceCtorEq, Nat.reduceAdd, Nat.reduceLeDiff, Nat.reduceLT, Nat.reduceBEq, Nat.reduceSub, EE.down]
          obtain rfl := Option.some.inj h
          exact eM [] rfl
    · have h := (if_neg g2).symm.trans h
      simp only [VW.down, Nat.reduceEqDiff, reduceCtorEq, Nat.reduceAdd, Nat.reduceLeDiff, Nat.reduceLT, Nat.reduceBEq, Nat.reduceSub, EE.down]
      refine guardS (fun g7 => ?_) (fun g7 => ?_)
      · have h := (if_pos g7).symm.trans h
        simp only [VW.down, Nat.reduceEqDiff, reduceCtorEq, Nat.reduceAdd, Nat.reduceLeDiff, Nat.reduceLT, Nat.reduceBEq, Nat.reduceSub, EE.down]
        refine guardSB (fun g8 => ?_) (fun g8 => ?_)
        · have h := (if_pos g8).symm.trans h
          simp only [VW.down, Nat.reduceEqDiff, reduceCtorEq, Nat.reduceAdd, Nat.reduceLeDiff, Nat.reduceLT, Nat.reduceBEq, Nat.reduceSub, EE.down]
          refine guardS (fun g9 => ?_) (fun g9 => ?_)
          · have h := (if_pos g9).symm.trans h
            simp only [VW.down, Nat.reduceEqDiff, reduceCtorEq, Nat.reduceAdd, Nat.reduceLeDiff, Nat.reduceLT, Nat.reduceBEq, Nat.reduceSub, EE.down]
            obtain rfl := Option.some.inj h
            exact eM [] rfl
          · have h := (if_neg g9).symm.trans h
            simp only [VW.down, Nat.reduceEqDiff, reduceCtorEq, Nat.reduceAdd, Nat.reduceLeDiff, Nat.reduceLT, Nat.reduceBEq, Nat.reduceSub, EE.down]
            obtain rfl := Option.some.inj h
            exact eM [] rfl
        · have h := (if_neg g8).symm.trans h
          simp only [VW.down, Nat.reduceEqDiff, reduceCtorEq, Nat.reduceAdd, Nat.reduceLeDiff, Nat.reduceLT, Nat.reduceBEq, Nat.reduceSub, EE.down]
          refine guardS (fun g10 => ?_) (fun g10 => ?_)
          · have h := (if_pos g10).symm.trans h
            simp only [VW.down, Nat.reduceEqDiff, reduceCtorEq, Nat.reduceAdd, Nat.reduceLeDiff, Nat.reduceLT, Nat.reduceBEq, Nat.reduceSub, EE.down]
            refine guardS (fun g11 => ?_) (fun g11 => ?_)
            · have h := (if_pos g11).symm.trans h
              simp only [VW.down, Nat.reduceEqDiff, reduceCtorEq, Nat.reduceAdd, Nat.reduceLeDiff, Nat.reduceLT, Nat.reduceBEq, Nat.reduceSub, EE.down]
              obtain rfl := Option.some.inj h
              exact eM [] rfl
            · have h := (if_neg g11).symm.trans h
              simp only [VW.down, Nat.reduceEqDiff, reduceCtorEq, Nat.reduceAdd, Nat.reduceLeDiff, Nat.reduceLT, Nat.reduceBEq, Nat.reduceSub, EE.down]
              obtain rfl := Option.some.inj h
              exact eM [] rfl
          · have h := (if_neg g10).symm.trans h
            simp only [VW.down, Nat.reduceEqDiff, reduceCtorEq, Nat.reduceAdd, Nat.reduceLeDiff, Nat.reduceLT, Nat.reduceBEq, Nat.reduceSub, EE.down]
            obtain rfl := Option.some.inj h
            exact eM [] rfl
      · have h := (if_neg g7).symm.trans h
        simp only [VW.down, Nat.reduceEqDiff, reduceCtorEq, Nat.reduceAdd, Nat.reduceLeDiff, Nat.reduceLT, Nat.reduceBEq, Nat.reduceSub, EE.down]
        obtain rfl := Option.some.inj h
        exact eM [] rfl
  · rintro _ rfl
    clear ho
    simp only [VW.down, Nat.reduceEqDiff, reduceCtorEq, Nat.reduceAdd, Nat.reduceLeDiff, Nat.reduceLT, Nat.reduceBEq, Nat.reduceSub, EE.down]
    obtain rfl := Option.some.inj h
    exact eF []

/- orchestrator/orchestratorref35.matching -/
def F69_l1 (x0 : Taint) : List Toleration → Nat → (List Toleration) → Option ((List Toleration))
  | [], o1_1, o1_0 => some o1_0
  | xo1 :: xs, o1_1, o1_0 => (((F82 xo1 x0).bind fun t4 => (if t4 = true then (apI o1_0 ([xo1])).bind fun a6 => some a6 else some o1_0)).bind fun o3 => F69_l1 x0 xs (o1_1 + 1) o3)
def F69 (x0 : Taint) (x1 : (List Toleration)) : Option ((List Toleration)) := (((ck (0 ≤ x1.length ∧ x1.length ≤ 4294967290)).bind fun u7 => F69_l1 x0 x1 0 ([])).bind fun o1 => some o1)
def a69 : AFn := ⟨27, [(.tmp 4)],
 (.seq (.reg [⟨(some 2), none, .box (.t 0), [], (.new [])⟩,
   ⟨(some 4), none, .mv kN, [], (.new [])⟩])
 (.seq (.reg [⟨(some 5), none, .mv kN, [], (.new [])⟩])
 (.seq (.seq (.reg [⟨(some 6), none, .mv (kI 0), [], (.new [])⟩])
 (.sem (.block 0 (.loop (.seq (.seq (.reg [⟨(some 7), none, .mv (.t 6), [], (.new [])⟩,
   ⟨(some 8), none, .mv (.t 1), [], (.new [])⟩,
   ⟨(some 9), none, .len (.t 8), [], (.new [])⟩,
   ⟨(some 10), none, .bin .lss (.t 7) (.t 9), [], (.new [])⟩])
 (.cond (.t 10)
 .skip
 (.exit 0)))
 (.seq (.sem (.block 1 (.seq (.regd [⟨(some 13), none, .mv (.t 1), [], (.new [])⟩,
   ⟨(some 14), none, .mv (.t 6), [], (.new [])⟩,
   ⟨(some 15), none, .indexA 5 (.t 13) (.t 14), [0, 1], (.new [])⟩,
   ⟨(some 16), none, .load (some 5) (.t 15), [0, 1, 2], (.new [])⟩,
   ⟨(some 17), none, .load (some 4) (.t 2), [], (.new [])⟩,
   ⟨(some 18), none, .call 82 [(.t 16), (.t 17)], [0, 1, 2, 3, 4], (.lone [])⟩])
 (.cond (.t 18)
 (.reg [⟨(some 19), none, .mv (.t 5), [], (.new [])⟩,
   ⟨(some 20), none, .mv (.t 1), [], (.new [])⟩,
   ⟨(some 21), none, .mv (.t 6), [], (.new [])⟩,
   ⟨(some 22), none, .indexA 5 (.t 20) (.t 21), [], (.new [])⟩,
   ⟨(some 23), none, .load (some 5) (.t 22), [], (.new [])⟩,
   ⟨(some 24), none, .bslice 5 [(.t 23)], [], (.new [])⟩,
   ⟨(some 25), none, .app 5 56 (.t 19) (.t 24), [], (.new [])⟩,
   ⟨(some 5), none, .mv (.t 25), [], (.new [])⟩])
 .skip))))
 (.reg [⟨(some 11), none, .mv (.t 6), [], (.new [])⟩,
   ⟨(some 12), none, .bin .add (.t 11) (kI 1), [], (.new [])⟩,
   ⟨(some 6), none, .mv (.t 12), [], (.new [])⟩])))))))
 (.seq (.reg [⟨(some 26), none, .mv (.t 5), [], (.new [])⟩,
   ⟨(some 4), none, .mv (.t 26), [], (.new [])⟩])
 .ret))))⟩
theorem a69_ok : afn Try.prog 69 = some a69.er := by kernel_rfl
theorem F69_ok {x0 : Taint} {x1 : (List Toleration)} {r : (List Toleration)} (h : F69 x0 x1 = some r) : CallD Try.prog 69 [.agg [.d (.v (.string x0.Key)), .d (.v (.string x0.Value)), .d (.v (.int .i64 x0.Effect)), .d (.v (.int .i64 x0.Since))], .c (.d (.sl (x1.map eToleration)))] [] (tupV [.c (.own 0 0 0 (r.length) none)]) [some (.arr 0 5 (r.map eToleration))] := by
  refine callS a69_ok (by simp [a69]) ?_
  rw [F69] at h
  simp only [a69, VW.down, Nat.reduceEqDiff, reduceCtorEq, Nat.reduceAdd, Nat.reduceLeDiff, Nat.reduceLT, Nat.reduceBEq, Nat.reduceSub, EE.down]
  obtain ⟨o1, ho, h⟩ := Option.bind_eq_some_iff.1 h
  refine cutS (fun s => s = ⟨[(5, .one (.c (.own 0 0 0 (o1.length) none)))], [some (.arr 0 5 (o1.map eToleration))]⟩) ?_ ?_
  · have h := ho
    clear ho
    obtain ⟨_, hk, h⟩ := Option.bind_eq_some_iff.1 h
    have hk := ck_some hk
    simp only [VW.down, Nat.reduceEqDiff, reduceCtorEq, Nat.reduceAdd, Nat.reduceLeDiff, Nat.reduceLT, Nat.reduceBEq, Nat.reduceSub, EE.down]
    refine bL (fun j s => ∃ (o1_1 : Nat) (o1_0 : List Toleration), (o1_1 ≤ x1.length ∧ j = x1.length - o1_1) ∧ s = ⟨[(1, .one (.c (.d (.sl (x1.map eToleration))))), (2, .one (.c (.pt 0 0))), (5, .one (.c (.own 1 0 0 (o1_0.length) none))), (6, .one (.c (.d (.v (.int .i64 ((o1_1 : Int)))))))], [some (.box [.d (.v (.string x0.Key)), .d (.v (.string x0.Value)), .d (.v (.int .i64 x0.Effect)), .d (.v (.int .i64 x0.Since))]), some (.arr 0 5 (o1_0.map eToleration))]⟩ ∧ F69_l1 x0 (x1.drop o1_1) o1_1 o1_0 = some o1) (x1.length - 0) [some 0, none] ⟨0, [], ⟨hk.1, rfl⟩, rfl, h⟩ ?_
    rintro _ _ ⟨o1_1, o1_0, ⟨hi, rfl⟩, rfl, h⟩
    simp only [VW.down, Nat.reduceEqDiff, reduceCtorEq, Nat.reduceAdd, Nat.reduceLeDiff, Nat.reduceLT, Nat.reduceBEq, Nat.reduceSub, EE.down]
    refine condS (fun c2 => ?_) (fun c2 => ?_)
    · obtain ⟨xo1, hxo1, hd⟩ := countY (show (o1_1 : Int) < (x1.length : Int) from c2)
      rw [hd, F69_l1] at h
      simp only [VW.down, Nat.reduceEqDiff, reduceCtorEq, Nat.reduceAdd, Nat.reduceLeDiff, Nat.reduceLT, Nat.reduceBEq, Nat.reduceSub, EE.down]
      obtain ⟨o3, ho, h⟩ := Option.bind_eq_some_iff.1 h
      refine cutS (fun s => s = ⟨[(1, .one (.c (.d (.sl (x1.map eToleration))))), (2, .one (.c (.pt 0 0))), (5, .one (.c (.own 1 0 0 (o3.length) none))), (6, .one (.c (.d (.v (.int .i64 ((o1_1 : Int)))))))], [some (.box [.d (.v (.string x0.Key)), .d (.v (.string x0.Value)), .d (.v (.int .i64 x0.Effect)), .d (.v (.int .i64 x0.Since))]), some (.arr 0 5 (o3.map eToleration))]⟩) ?_ ?_
      · have h := ho
        clear ho
        simp only [VW.down, Nat.reduceEqDiff, reduceCtorEq, Nat.reduceAdd, Nat.reduceLeDiff, Nat.reduceLT, Nat.reduceBEq, Nat.reduceSub, EE.down]
        refine t_idxF (enc := eToleration) (xs := x1) rfl rfl hxo1 rfl ?_
        simp only [VW.down, Nat.reduceEqDiff, reduceCtorEq, Nat.reduceAdd, Nat.reduceLeDiff, Nat.reduceLT, Nat.reduceBEq, Nat.reduceSub, EE.down]
        obtain ⟨t4, ht4, h⟩ := Option.bind_eq_some_iff.1 h
        refine callX_n [] (F82_ok ht4) ?_ ?_ ?_ ?_ ?_ ?_
        · first | rfl | simp [nrmA, nrmC, nrm, A1.ren, C.ren, rn, List.length_set]
        · simp [liveAll, A1.live, C.live]
        · rfl
        · decide
        · exact trivial
        simp only [VW.down, Nat.reduceEqDiff, reduceCtorEq, Nat.reduceAdd, Nat.reduceLeDiff, Nat.reduceLT, Nat.reduceBEq, Nat.reduceSub, EE.down]
        refine condB (fun c5 => ?_) (fun c5 => ?_)
        · have h := (if_pos c5).symm.trans h
          simp only [VW.down, Nat.reduceEqDiff, reduceCtorEq, Nat.reduceAdd, Nat.reduceLeDiff, Nat.reduceLT, Nat.reduceBEq, Nat.reduceSub, EE.down]
          refine t_idxF (enc := eToleration) (xs := x1) rfl rfl hxo1 rfl ?_
          simp only [VW.down, Nat.reduceEqDiff, reduceCtorEq, Nat.reduceAdd, Nat.reduceLeDiff, Nat.reduceLT, Nat.reduceBEq, Nat.reduceSub, EE.down]
          refine t_bslice (enc := eToleration) (ys := [xo1]) rfl rfl (by simp [A1.cells]) (by first | rfl | (simp only [List.drop_zero, take_mapL]; rfl)) ?_
          simp only [VW.down, Nat.reduceEqDiff, reduceCtorEq, Nat.reduceAdd, Nat.reduceLeDiff, Nat.reduceLT, Nat.reduceBEq, Nat.reduceSub, EE.down]
          obtain ⟨a6, ha6, h⟩ := Option.bind_eq_some_iff.1 h
          refine t_app (enc := eToleration) (xs := o1_0) rfl rfl (by first | rfl | simp only [List.length_set] | exact (clrL_len (slI_len (by assumption))).symm) rfl (rows_full (enc := eToleration) (by first | rfl | simp only [List.length_set] | exact (clrL_len (slI_len (by assumption))).symm) rfl) ha6 ?_
          simp only [VW.down, Nat.reduceEqDiff, reduceCtorEq, Nat.reduceAdd, Nat.reduceLeDiff, Nat.reduceLT, Nat.reduceBEq, Nat.reduceSub, EE.down]
          obtain rfl := Option.some.inj h
          exact eM [some 0, some 1] rfl
        · have h := (if_neg c5).symm.trans h
          simp only [VW.down, Nat.reduceEqDiff, reduceCtorEq, Nat.reduceAdd, Nat.reduceLeDiff, Nat.reduceLT, Nat.reduceBEq, Nat.reduceSub, EE.down]
          obtain rfl := Option.some.inj h
          exact eM [some 0, some 1] rfl
      · rintro _ rfl
        clear ho
        simp only [VW.down, Nat.reduceEqDiff, reduceCtorEq, Nat.reduceAdd, Nat.reduceLeDiff, Nat.reduceLT, Nat.reduceBEq, Nat.reduceSub, EE.down]
        rw [wrapN (by omega)]
        exact eL' (x1.length - (o1_1 + 1)) [some 0, some 1] ⟨o1_1 + 1, o3, ⟨by omega, rfl⟩, rfl, h⟩ (by omega)
    · rw [countN (show ¬ ((o1_1 : Int) < (x1.length : Int)) from c2), F69_l1] at h
      simp only [VW.down, Nat.reduceEqDiff, reduceCtorEq, Nat.reduceAdd, Nat.reduceLeDiff, Nat.reduceLT, Nat.reduceBEq, Nat.reduceSub, EE.down]
      obtain rfl := Option.some.inj h
      exact eM [some 1] rfl
  · rintro _ rfl
    clear ho
    simp only [VW.down, Nat.reduceEqDiff, reduceCtorEq, Nat.reduceAdd, Nat.reduceLeDiff, Nat.reduceLT, Nat.reduceBEq, Nat.reduceSub, EE.down]
    obtain rfl := Option.some.inj h
    exact eF [some 0]

/- orchestrator/orchestratorref35.leaves -/
def F62_l4 (t2 : (List Toleration)) : List Toleration → Nat → Int → Option ((Int × Bool) ⊕ (Int))
  | [], o4_1, o4_0 => some (Sum.inr o4_0)
  | xo4 :: xs, o4_1, o4_0 => (rdI t2 ((o4_1 : Int))).bind fun y6 => (if y6.Seconds < 0 then (some ((0, false))).map Sum.inl else (rdI t2 ((o4_1 : Int))).bind fun y8 => F62_l4 t2 xs (o4_1 + 1) ((if y8.Seconds < o4_0 then y8.Seconds else o4_0)))
def F62 (x0 : Taint) (x1 : (List Toleration)) : Option (Int × Bool) := (if ¬ (x0.Effect = 3) then some ((0, false)) else (F69 x0 x1).bind fun t2 => (if (t2.length : Int) = 0 then some (((if (if 0 < x0.Since then x0.Since else 0) < 1000000000000 then (if 0 < x0.Since then x0.Since else 0) else 1000000000000), true)) else (((ck (0 ≤ t2.length ∧ t2.length ≤ 4294967290)).bind fun u9 => F62_l4 t2 t2 0 1000000000000).bind fun o4 => match o4 with | Sum.inl f => some f | Sum.inr po4 => some (((if (IntKind.i64.wrap (((if (if 0 < x0.Since then x0.Since else 0) < 1000000000000 then (if 0 < x0.Since then x0.Since else 0) else 1000000000000)) + po4)) < 1000000000000 then (IntKind.i64.wrap (((if (if 0 < x0.Since then x0.Since else 0) < 1000000000000 then (if 0 < x0.Since then x0.Since else 0) else 1000000000000)) + po4)) else 1000000000000), true)))))
def a62 : AFn := ⟨47, [(.tmp 4), (.tmp 5)],
 (.seq (.reg [⟨(some 2), none, .box (.t 0), [], (.new [])⟩,
   ⟨(some 4), none, .mv (kI 0), [], (.new [])⟩,
   ⟨(some 5), none, .mv (kB false), [], (.new [])⟩])
 (.seq (.seq (.reg [⟨(some 10), none, .fieldA 2 (.t 2), [], (.new [])⟩,
   ⟨(some 11), none, .load none (.t 10), [], (.new [])⟩,
   ⟨(some 12), none, .bin .neq (.t 11) (kI 3), [], (.new [])⟩])
 (.cond (.t 12)
 (.seq (.reg [⟨(some 4), none, .mv (kI 0), [], (.new [])⟩,
   ⟨(some 5), none, .mv (kB false), [], (.new [])⟩])
 .ret)
 .skip))
 (.seq (.reg [⟨(some 13), none, .fieldA 3 (.t 2), [], (.new [])⟩,
   ⟨(some 14), none, .load none (.t 13), [], (.new [])⟩,
   ⟨(some 15), none, .max (kI 0) (.t 14), [], (.new [])⟩,
   ⟨(some 16), none, .min (kI 1000000000000) (.t 15), [], (.new [])⟩,
   ⟨(some 6), none, .mv (.t 16), [], (.new [])⟩])
 (.seq (.reg [⟨(some 17), none, .load (some 4) (.t 2), [], (.new [])⟩,
   ⟨(some 18), none, .mv (.t 1), [], (.new [])⟩,
   ⟨(some 19), none, .call 69 [(.t 17), (.t 18)], [], (.new [])⟩,
   ⟨(some 7), none, .mv (.t 19), [], (.new [])⟩])
 (.seq (.seq (.reg [⟨(some 20), none, .mv (.t 7), [], (.new [])⟩,
   ⟨(some 21), none, .len (.t 20), [], (.new [])⟩,
   ⟨(some 22), none, .bin .eql (.t 21) (kI 0), [], (.new [])⟩])
 (.cond (.t 22)
 (.seq (.reg [⟨(some 23), none, .mv (.t 6), [], (.new [])⟩,
   ⟨(some 4), none, .mv (.t 23), [], (.new [])⟩,
   ⟨(some 5), none, .mv (kB true), [], (.new [])⟩])
 .ret)
 .skip))
 (.seq (.reg [⟨(some 8), none, .mv (kI 1000000000000), [], (.new [])⟩])
 (.seq (.seq (.reg [⟨(some 9), none, .mv (kI 0), [], (.new [])⟩])
 (.sem (.block 0 (.loop (.seq (.seq (.reg [⟨(some 24), none, .mv (.t 9), [], (.new [])⟩,
   ⟨(some 25), none, .mv (.t 7), [], (.new [])⟩,
   ⟨(some 26), none, .len (.t 25), [], (.new [])⟩,
   ⟨(some 27), none, .bin .lss (.t 24) (.t 26), [], (.new [])⟩])
 (.cond (.t 27)
 .skip
 (.exit 0)))
 (.seq (.block 1 (.seq (.seq (.reg [⟨(some 30), none, .mv (.t 7), [], (.new [])⟩,
   ⟨(some 31), none, .mv (.t 9), [], (.new [])⟩,
   ⟨(some 32), none, .indexA 5 (.t 30) (.t 31), [], (.new [])⟩,
   ⟨(some 33), none, .fieldA 4 (.t 32), [], (.new [])⟩,
   ⟨(some 34), none, .load none (.t 33), [], (.new [])⟩,
   ⟨(some 35), none, .bin .lss (.t 34) (kI 0), [], (.new [])⟩])
 (.cond (.t 35)
 (.seq (.reg [⟨(some 4), none, .mv (kI 0), [], (.new [])⟩,
   ⟨(some 5), none, .mv (kB false), [], (.new [])⟩])
 .ret)
 .skip))
 (.reg [⟨(some 36), none, .mv (.t 8), [], (.new [])⟩,
   ⟨(some 37), none, .mv (.t 7), [], (.new [])⟩,
   ⟨(some 38), none, .mv (.t 9), [], (.new [])⟩,
   ⟨(some 39), none, .indexA 5 (.t 37) (.t 38), [], (.new [])⟩,
   ⟨(some 40), none, .fieldA 4 (.t 39), [], (.new [])⟩,
   ⟨(some 41), none, .load none (.t 40), [], (.new [])⟩,
   ⟨(some 42), none, .min (.t 36) (.t 41), [], (.new [])⟩,
   ⟨(some 8), none, .mv (.t 42), [], (.new [])⟩])))
 (.reg [⟨(some 28), none, .mv (.t 9), [], (.new [])⟩,
   ⟨(some 29), none, .bin .add (.t 28) (kI 1), [], (.new [])⟩,
   ⟨(some 9), none, .mv (.t 29), [], (.new [])⟩])))))))
 (.seq (.reg [⟨(some 43), none, .mv (.t 6), [], (.new [])⟩,
   ⟨(some 44), none, .mv (.t 8), [], (.new [])⟩,
   ⟨(some 45), none, .bin .add (.t 43) (.t 44), [], (.new [])⟩,
   ⟨(some 46), none, .min (kI 1000000000000) (.t 45), [], (.new [])⟩,
   ⟨(some 4), none, .mv (.t 46), [], (.new [])⟩,
   ⟨(some 5), none, .mv (kB true), [], (.new [])⟩])
 .ret))))))))⟩
theorem a62_ok : afn Try.prog 62 = some a62.er := by kernel_rfl
theorem F62_ok {x0 : Taint} {x1 : (List Toleration)} {r : Int × Bool} (h : F62 x0 x1 = some r) : CallD Try.prog 62 [.agg [.d (.v (.string x0.Key)), .d (.v (.string x0.Value)), .d (.v (.int .i64 x0.Effect)), .d (.v (.int .i64 x0.Since))], .c (.d (.sl (x1.map eToleration)))] [] (tupV [.c (.d (.v (.int .i64 r.1))), .c (.d (.v (.bool r.2)))]) [] := by
  refine callS a62_ok (by simp [a62]) ?_
  rw [F62] at h
  simp only [a62, VW.down, Nat.reduceEqDiff, reduceCtorEq, Nat.reduceAdd, Nat.reduceLeDiff, Nat.reduceLT, Nat.reduceBEq, Nat.reduceSub, EE.down]
  refine condS (fun c1 => ?_) (fun c1 => ?_)
  · have h := (if_pos c1).symm.trans h
    simp only [VW.down, Nat.reduceEqDiff, reduceCtorEq, Nat.reduceAdd, Nat.reduceLeDiff, Nat.reduceLT, Nat.reduceBEq, Nat.reduceSub, EE.down]
    obtain rfl := Option.some.inj h
    exact eF []
  · have h := (if_neg c1).symm.trans h
    simp only [VW.down, Nat.reduceEqDiff, reduceCtorEq, Nat.reduceAdd, Nat.reduceLeDiff, Nat.reduceLT, Nat.reduceBEq, Nat.reduceSub, EE.down]
    obtain ⟨t2, ht2, h⟩ := Option.bind_eq_some_iff.1 h
    refine callX_n [] (F69_ok ht2) ?_ ?_ ?_ ?_ ?_ ?_
    · first | rfl | simp [nrmA, nrmC, nrm, A1.ren, C.ren, rn, List.length_set]
    · simp [liveAll, A1.live, C.live]
    · rfl
    · decide
    · exact trivial
    simp only [VW.down, Nat.reduceEqDiff, reduceCtorEq, Nat.reduceAdd, Nat.reduceLeDiff, Nat.reduceLT, Nat.reduceBEq, Nat.reduceSub, EE.down]
    refine condS (fun c3 => ?_) (fun c3 => ?_)
    · have h := (if_pos c3).symm.trans h
      simp only [VW.down, Nat.reduceEqDiff, reduceCtorEq, Nat.reduceAdd, Nat.reduceLeDiff, Nat.reduceLT, Nat.reduceBEq, Nat.reduceSub, EE.down]
      obtain rfl := Option.some.inj h
      exact eF []
    · have h := (if_neg c3).symm.trans h
      simp only [VW.down, Nat.reduceEqDiff, reduceCtorEq, Nat.reduceAdd, Nat.reduceLeDiff, Nat.reduceLT, Nat.reduceBEq, Nat.reduceSub, EE.down]
      obtain ⟨o4, ho, h⟩ := Option.bind_eq_some_iff.1 h
      refine cutS (fun s => ∃ po4, o4 = Sum.inr po4 ∧ s = ⟨[(6, .one (.c (.d (.v (.int .i64 ((if (if 0 < x0.Since then x0.Since else 0) < 1000000000000 then (if 0 < x0.Since then x0.Since else 0) else 1000000000000))))))), (8, .one (.c (.d (.v (.int .i64 po4)))))], []⟩) ?_ ?_
      · have h0o4 := h
        have h := ho
        clear ho
        obtain ⟨_, hk, h⟩ := Option.bind_eq_some_iff.1 h
        have hk := ck_some hk
        simp only [VW.down, Nat.reduceEqDiff, reduceCtorEq, Nat.reduceAdd, Nat.reduceLeDiff, Nat.reduceLT, Nat.reduceBEq, Nat.reduceSub, EE.down]
        refine bL (fun j s => ∃ (o4_1 : Nat) (o4_0 : Int), (o4_1 ≤ t2.length ∧ j = t2.length - o4_1) ∧ s = ⟨[(6, .one (.c (.d (.v (.int .i64 ((if (if 0 < x0.Since then x0.Since else 0) < 1000000000000 then (if 0 < x0.Since then x0.Since else 0) else 1000000000000))))))), (7, .one (.c (.own 0 0 0 (t2.length) none))), (8, .one (.c (.d (.v (.int .i64 o4_0))))), (9, .one (.c (.d (.v (.int .i64 ((o4_1 : Int)))))))], [some (.arr 0 5 (t2.map eToleration))]⟩ ∧ F62_l4 t2 (t2.drop o4_1) o4_1 o4_0 = some o4) (t2.length - 0) [some 1] ⟨0, 1000000000000, ⟨hk.1, rfl⟩, rfl, h⟩ ?_
        rintro _ _ ⟨o4_1, o4_0, ⟨hi, rfl⟩, rfl, h⟩
        simp only [VW.down, Nat.reduceEqDiff, reduceCtorEq, Nat.reduceAdd, Nat.reduceLeDiff, Nat.reduceLT, Nat.reduceBEq, Nat.reduceSub, EE.down]
        refine condS (fun c5 => ?_) (fun c5 => ?_)
        · obtain ⟨xo4, hxo4, hd⟩ := countY (show (o4_1 : Int) < (t2.length : Int) from c5)
          rw [hd, F62_l4] at h
          simp only [VW.down, Nat.reduceEqDiff, reduceCtorEq, Nat.reduceAdd, Nat.reduceLeDiff, Nat.reduceLT, Nat.reduceBEq, Nat.reduceSub, EE.down]
          obtain ⟨y6, hy6, h⟩ := Option.bind_eq_some_iff.1 h
          refine t_idxO (enc := eToleration) (xs := t2) rfl rfl rfl (by first | rfl | simp only [List.length_set] | exact (clrL_len (slI_len (by assumption))).symm) hy6 ?_
          simp only [VW.down, Nat.reduceEqDiff, reduceCtorEq, Nat.reduceAdd, Nat.reduceLeDiff, Nat.reduceLT, Nat.reduceBEq, Nat.reduceSub, EE.down]
          refine LdRow.rd (rdI_some hy6).2.1 ?_
          simp only [VW.down, Nat.reduceEqDiff, reduceCtorEq, Nat.reduceAdd, Nat.reduceLeDiff, Nat.reduceLT, Nat.reduceBEq, Nat.reduceSub, EE.down]
          refine condS (fun c7 => ?_) (fun c7 => ?_)
          · have h := (if_pos c7).symm.trans h
            simp only [VW.down, Nat.reduceEqDiff, reduceCtorEq, Nat.reduceAdd, Nat.reduceLeDiff, Nat.reduceLT, Nat.reduceBEq, Nat.reduceSub, EE.down]
            obtain ⟨fh0o4, hfh0o4, rfl⟩ := Option.map_eq_some_iff.1 h
            have h := hfh0o4.trans h0o4
            obtain rfl := Option.some.inj h
            exact eF []
          · have h := (if_neg c7).symm.trans h
            simp only [VW.down, Nat.reduceEqDiff, reduceCtorEq, Nat.reduceAdd, Nat.reduceLeDiff, Nat.reduceLT, Nat.reduceBEq, Nat.reduceSub, EE.down]
            obtain ⟨y8, hy8, h⟩ := Option.bind_eq_some_iff.1 h
            refine t_idxO (enc := eToleration) (xs := t2) rfl rfl rfl (by first | rfl | simp only [List.length_set] | exact (clrL_len (slI_len (by assumption))).symm) hy8 ?_
            simp only [VW.down, Nat.reduceEqDiff, reduceCtorEq, Nat.reduceAdd, Nat.reduceLeDiff, Nat.reduceLT, Nat.reduceBEq, Nat.reduceSub, EE.down]
            refine LdRow.rd (rdI_some hy8).2.1 ?_
            simp only [VW.down, Nat.reduceEqDiff, reduceCtorEq, Nat.reduceAdd, Nat.reduceLeDiff, Nat.reduceLT, Nat.reduceBEq, Nat.reduceSub, EE.down]
            rw [wrapN (by omega)]
            exact eL' (t2.length - (o4_1 + 1)) [some 0] ⟨o4_1 + 1, (if y8.Seconds < o4_0 then y8.Seconds else o4_0), ⟨by omega, rfl⟩, rfl, h⟩ (by omega)
        · rw [countN (show ¬ ((o4_1 : Int) < (t2.length : Int)) from c5), F62_l4] at h
          simp only [VW.down, Nat.reduceEqDiff, reduceCtorEq, Nat.reduceAdd, Nat.reduceLeDiff, Nat.reduceLT, Nat.reduceBEq, Nat.reduceSub, EE.down]
          obtain rfl := Option.some.inj h
          exact eM [] ⟨_, rfl, rfl⟩
      · rintro _ ⟨po4, rfl, rfl⟩
        clear ho
        dsimp only at h
        simp only [VW.down, Nat.reduceEqDiff, reduceCtorEq, Nat.reduceAdd, Nat.reduceLeDiff, Nat.reduceLT, Nat.reduceBEq, Nat.reduceSub, EE.down]
        obtain rfl := Option.some.inj h
        exact eF []

/- orchestrator/orchestratorref35.EvictAt -/
def F38_l1 (x1 : (List Toleration)) : List Taint → Nat → Int → Bool → Option (Int × Bool)
  | [], o1_2, o1_0, o1_1 => some ((o1_0, o1_1))
  | xo1 :: xs, o1_2, o1_0, o1_1 => (((F62 xo1 x1).bind fun t4 => (((if t4.2 = true then (if (nb o1_1) = true then some true else some (decide (t4.1 < o1_0))) else some false)).bind fun o5 => (if o5 = true then some ((t4.1, true)) else some ((o1_0, o1_1))))).bind fun o3 => F38_l1 x1 xs (o1_2 + 1) o3.1 o3.2)
def F38 (x0 : (List Taint)) (x1 : (List Toleration)) : Option (Int × Bool) := (((ck (0 ≤ x0.length ∧ x0.length ≤ 4294967290)).bind fun u9 => F38_l1 x1 x0 0 0 false).bind fun o1 => some ((o1.1, o1.2)))
def a38 : AFn := ⟨39, [(.tmp 4), (.tmp 5)],
 (.seq (.reg [⟨(some 4), none, .mv (kI 0), [], (.new [])⟩,
   ⟨(some 5), none, .mv (kB false), [], (.new [])⟩])
 (.seq (.reg [⟨(some 6), none, .mv (kI 0), [], (.new [])⟩,
   ⟨(some 7), none, .mv (kB false), [], (.new [])⟩])
 (.seq (.seq (.reg [⟨(some 8), none, .mv (kI 0), [], (.new [])⟩])
 (.sem (.block 0 (.loop (.seq (.seq (.reg [⟨(some 11), none, .mv (.t 8), [], (.new [])⟩,
   ⟨(some 12), none, .mv (.t 0), [], (.new [])⟩,
   ⟨(some 13), none, .len (.t 12), [], (.new [])⟩,
   ⟨(some 14), none, .bin .lss (.t 11) (.t 13), [], (.new [])⟩])
 (.cond (.t 14)
 .skip
 (.exit 0)))
 (.seq (.sem (.block 1 (.seq (.reg [⟨(some 18), none, .mv (.t 0), [], (.new [])⟩,
   ⟨(some 19), none, .mv (.t 8), [], (.new [])⟩,
   ⟨(some 20), none, .indexA 4 (.t 18) (.t 19), [], (.new [])⟩,
   ⟨(some 21), none, .load (some 4) (.t 20), [], (.new [])⟩,
   ⟨(some 22), none, .mv (.t 1), [], (.new [])⟩,
   ⟨(some 23), none, .call 62 [(.t 21), (.t 22)], [], (.new [])⟩,
   ⟨(some 17), none, .mv (.t 23), [], (.new [])⟩,
   ⟨(some 24), none, .ext (.t 17) 0, [], (.new [])⟩,
   ⟨(some 25), none, .ext (.t 17) 1, [], (.new [])⟩,
   ⟨(some 9), none, .mv (.t 24), [], (.new [])⟩,
   ⟨(some 10), none, .mv (.t 25), [], (.new [])⟩])
 (.seq (.sem (.reg [⟨(some 26), none, .mv (.t 10), [], (.new [])⟩,
   ⟨(some 27), none, .mv (.t 26), [], (.new [])⟩,
   ⟨(some 28), (some (27, true)), .mv (.t 7), [], (.new [])⟩,
   ⟨(some 29), (some (27, true)), .not (.t 28), [], (.new [])⟩,
   ⟨(some 30), (some (27, true)), .mv (.t 29), [], (.new [])⟩,
   ⟨(some 31), (some (30, false)), .mv (.t 9), [], (.new [])⟩,
   ⟨(some 32), (some (30, false)), .mv (.t 6), [], (.new [])⟩,
   ⟨(some 33), (some (30, false)), .bin .lss (.t 31) (.t 32), [], (.new [])⟩,
   ⟨(some 34), (some (27, true)), .pick (.t 30) (kB true) (.t 33), [], (.new [])⟩,
   ⟨(some 35), none, .pick (.t 27) (.t 34) (kB false), [], (.new [])⟩]))
 (.cond (.t 35)
 (.reg [⟨(some 36), none, .mv (.t 9), [], (.new [])⟩,
   ⟨(some 6), none, .mv (.t 36), [], (.new [])⟩,
   ⟨(some 7), none, .mv (kB true), [], (.new [])⟩])
 .skip)))))
 (.reg [⟨(some 15), none, .mv (.t 8), [], (.new [])⟩,
   ⟨(some 16), none, .bin .add (.t 15) (kI 1), [], (.new [])⟩,
   ⟨(some 8), none, .mv (.t 16), [], (.new [])⟩])))))))
 (.seq (.reg [⟨(some 37), none, .mv (.t 6), [], (.new [])⟩,
   ⟨(some 38), none, .mv (.t 7), [], (.new [])⟩,
   ⟨(some 4), none, .mv (.t 37), [], (.new [])⟩,
   ⟨(some 5), none, .mv (.t 38), [], (.new [])⟩])
 .ret))))⟩
theorem a38_ok : afn Try.prog 38 = some a38.er := by kernel_rfl
theorem F38_ok {x0 : (List Taint)} {x1 : (List Toleration)} {r : Int × Bool} (h : F38 x0 x1 = some r) : CallD Try.prog 38 [.c (.d (.sl (x0.map eTaint))), .c (.d (.sl (x1.map eToleration)))] [] (tupV [.c (.d (.v (.int .i64 r.1))), .c (.d (.v (.bool r.2)))]) [] := by
  refine callS a38_ok (by simp [a38]) ?_
  rw [F38] at h
  simp only [a38, VW.down, Nat.reduceEqDiff, reduceCtorEq, Nat.reduceAdd, Nat.reduceLeDiff, Nat.reduceLT, Nat.reduceBEq, Nat.reduceSub, EE.down]
  obtain ⟨o1, ho, h⟩ := Option.bind_eq_some_iff.1 h
  refine cutS (fun s => s = ⟨[(6, .one (.c (.d (.v (.int .i64 o1.1))))), (7, .one (.c (.d (.v (.bool o1.2)))))], []⟩) ?_ ?_
  · have h := ho
    clear ho
    obtain ⟨_, hk, h⟩ := Option.bind_eq_some_iff.1 h
    have hk := ck_some hk
    simp only [VW.down, Nat.reduceEqDiff, reduceCtorEq, Nat.reduceAdd, Nat.reduceLeDiff, Nat.reduceLT, Nat.reduceBEq, Nat.reduceSub, EE.down]
    refine bL (fun j s => ∃ (o1_2 : Nat) (o1_0 : Int) (o1_1 : Bool), (o1_2 ≤ x0.length ∧ j = x0.length - o1_2) ∧ s = ⟨[(0, .one (.c (.d (.sl (x0.map eTaint))))), (1, .one (.c (.d (.sl (x1.map eToleration))))), (6, .one (.c (.d (.v (.int .i64 o1_0))))), (7, .one (.c (.d (.v (.bool o1_1))))), (8, .one (.c (.d (.v (.int .i64 ((o1_2 : Int)))))))], []⟩ ∧ F38_l1 x1 (x0.drop o1_2) o1_2 o1_0 o1_1 = some o1) (x0.length - 0) [] ⟨0, 0, false, ⟨hk.1, rfl⟩, rfl, h⟩ ?_
    rintro _ _ ⟨o1_2, o1_0, o1_1, ⟨hi, rfl⟩, rfl, h⟩
    simp only [VW.down, Nat.reduceEqDiff, reduceCtorEq, Nat.reduceAdd, Nat.reduceLeDiff, Nat.reduceLT, Nat.reduceBEq, Nat.reduceSub, EE.down]
    refine condS (fun c2 => ?_) (fun c2 => ?_)
    · obtain ⟨xo1, hxo1, hd⟩ := countY (show (o1_2 : Int) < (x0.length : Int) from c2)
      rw [hd, F38_l1] at h
      simp only [VW.down, Nat.reduceEqDiff, reduceCtorEq, Nat.reduceAdd, Nat.reduceLeDiff, Nat.reduceLT, Nat.reduceBEq, Nat.reduceSub, EE.down]
      obtain ⟨o3, ho, h⟩ := Option.bind_eq_some_iff.1 h
      refine cutS (fun s => s = ⟨[(0, .one (.c (.d (.sl (x0.map eTaint))))), (1, .one (.c (.d (.sl (x1.map eToleration))))), (6, .one (.c (.d (.v (.int .i64 o3.1))))), (7, .one (.c (.d (.v (.bool o3.2))))), (8, .one (.c (.d (.v (.int .i64 ((o1_2 : Int)))))))], []⟩) ?_ ?_
      · have h := ho
        clear ho
        simp only [VW.down, Nat.reduceEqDiff, reduceCtorEq, Nat.reduceAdd, Nat.reduceLeDiff, Nat.reduceLT, Nat.reduceBEq, Nat.reduceSub, EE.down]
        refine t_idxF (enc := eTaint) (xs := x0) rfl rfl hxo1 rfl ?_
        simp only [VW.down, Nat.reduceEqDiff, reduceCtorEq, Nat.reduceAdd, Nat.reduceLeDiff, Nat.reduceLT, Nat.reduceBEq, Nat.reduceSub, EE.down]
        obtain ⟨t4, ht4, h⟩ := Option.bind_eq_some_iff.1 h
        refine callX_n [] (F62_ok ht4) ?_ ?_ ?_ ?_ ?_ ?_
        · first | rfl | simp [nrmA, nrmC, nrm, A1.ren, C.ren, rn, List.length_set]
        · simp [liveAll, A1.live, C.live]
        · rfl
        · decide
        · exact trivial
        simp only [VW.down, Nat.reduceEqDiff, reduceCtorEq, Nat.reduceAdd, Nat.reduceLeDiff, Nat.reduceLT, Nat.reduceBEq, Nat.reduceSub, EE.down]
        obtain ⟨o5, ho, h⟩ := Option.bind_eq_some_iff.1 h
        refine cutS (fun s => s = ⟨[(0, .one (.c (.d (.sl (x0.map eTaint))))), (1, .one (.c (.d (.sl (x1.map eToleration))))), (6, .one (.c (.d (.v (.int .i64 o1_0))))), (7, .one (.c (.d (.v (.bool o1_1))))), (8, .one (.c (.d (.v (.int .i64 ((o1_2 : Int))))))), (9, .one (.c (.d (.v (.int .i64 t4.1))))), (35, .one (.c (.d (.v (.bool o5)))))], []⟩) ?_ ?_
        · have h := ho
          clear ho
          simp only [VW.down, Nat.reduceEqDiff, reduceCtorEq, Nat.reduceAdd, Nat.reduceLeDiff, Nat.reduceLT, Nat.reduceBEq, Nat.reduceSub, EE.down]
          refine guardSB (fun g6 => ?_) (fun g6 => ?_)
          · have h := (if_pos g6).symm.trans h
            simp only [VW.down, Nat.reduceEqDiff, reduceCtorEq, Nat.reduceAdd, Nat.reduceLeDiff, Nat.reduceLT, Nat.reduceBEq, Nat.reduceSub, EE.down]
            refine guardSB (fun g7 => ?_) (fun g7 => ?_)
            · have h := (if_pos g7).symm.trans h
              simp only [VW.down, Nat.reduceEqDiff, reduceCtorEq, Nat.reduceAdd, Nat.reduceLeDiff, Nat.reduceLT, Nat.reduceBEq, Nat.reduceSub, EE.down]
              obtain rfl := Option.some.inj h
              exact eM [] rfl
            · have h := (if_neg g7).symm.trans h
              simp only [VW.down, Nat.reduceEqDiff, reduceCtorEq, Nat.reduceAdd, Nat.reduceLeDiff, Nat.reduceLT, Nat.reduceBEq, Nat.reduceSub, EE.down]
              obtain rfl := Option.some.inj h
              exact eM [] rfl
          · have h := (if_neg g6).symm.trans h
            simp only [VW.down, Nat.reduceEqDiff, reduceCtorEq, Nat.reduceAdd, Nat.reduceLeDiff, Nat.reduceLT, Nat.reduceBEq, Nat.reduceSub, EE.down]
            obtain rfl := Option.some.inj h
            exact eM [] rfl
        · rintro _ rfl
          clear ho
          simp only [VW.down, Nat.reduceEqDiff, reduceCtorEq, Nat.reduceAdd, Nat.reduceLeDiff, Nat.reduceLT, Nat.reduceBEq, Nat.reduceSub, EE.down]
          refine condB (fun c8 => ?_) (fun c8 => ?_)
          · have h := (if_pos c8).symm.trans h
            simp only [VW.down, Nat.reduceEqDiff, reduceCtorEq, Nat.reduceAdd, Nat.reduceLeDiff, Nat.reduceLT, Nat.reduceBEq, Nat.reduceSub, EE.down]
            obtain rfl := Option.some.inj h
            exact eM [] rfl
          · have h := (if_neg c8).symm.trans h
            simp only [VW.down, Nat.reduceEqDiff, reduceCtorEq, Nat.reduceAdd, Nat.reduceLeDiff, Nat.reduceLT, Nat.reduceBEq, Nat.reduceSub, EE.down]
            obtain rfl := Option.some.inj h
            exact eM [] rfl
      · rintro _ rfl
        clear ho
        simp only [VW.down, Nat.reduceEqDiff, reduceCtorEq, Nat.reduceAdd, Nat.reduceLeDiff, Nat.reduceLT, Nat.reduceBEq, Nat.reduceSub, EE.down]
        rw [wrapN (by omega)]
        exact eL' (x0.length - (o1_2 + 1)) [] ⟨o1_2 + 1, o3.1, o3.2, ⟨by omega, rfl⟩, rfl, h⟩ (by omega)
    · rw [countN (show ¬ ((o1_2 : Int) < (x0.length : Int)) from c2), F38_l1] at h
      simp only [VW.down, Nat.reduceEqDiff, reduceCtorEq, Nat.reduceAdd, Nat.reduceLeDiff, Nat.reduceLT, Nat.reduceBEq, Nat.reduceSub, EE.down]
      obtain rfl := Option.some.inj h
      exact eM [] rfl
  · rintro _ rfl
    clear ho
    simp only [VW.down, Nat.reduceEqDiff, reduceCtorEq, Nat.reduceAdd, Nat.reduceLeDiff, Nat.reduceLT, Nat.reduceBEq, Nat.reduceSub, EE.down]
    obtain rfl := Option.some.inj h
    exact eF []

/- orchestrator/orchestratorref54.limit -/
def F28 (x0 : Int) : Option (Unit) := some (())
def a28 : AFn := ⟨6, [(.tmp 2)],
 (.seq (.reg [⟨(some 2), none, .mv (kI 0), [], (.new [])⟩])
 (.seq (.reg [⟨(some 3), none, .mv (.t 0), [], (.new [])⟩,
   ⟨(some 4), none, .max (kI 0) (.t 3), [], (.new [])⟩,
   ⟨(some 5), none, .min (kI 1000000000000) (.t 4), [], (.new [])⟩,
   ⟨(some 2), none, .mv (.t 5), [], (.new [])⟩])
 .ret))⟩
theorem a28_ok : afn Try.prog 28 = some a28.er := by kernel_rfl
theorem F28_ok {x0 : Int} {r : Unit} (h : F28 x0 = some r) : CallD Try.prog 28 [.c (.d (.v (.int .i64 x0)))] [] (tupV [.c (.d (.v (.int .i64 ((if (if 0 < x0 then x0 else 0) < 1000000000000 then (if 0 < x0 then x0 else 0) else 1000000000000)))))]) [] := by
  refine callS a28_ok (by simp [a28]) ?_
  rw [F28] at h
  simp only [a28, VW.down, Nat.reduceEqDiff, reduceCtorEq, Nat.reduceAdd, Nat.reduceLeDiff, Nat.reduceLT, Nat.reduceBEq, Nat.reduceSub, EE.down]
  obtain rfl := Option.some.inj h
  exact eF []

/- orchestrator/orchestratorref13.Key -/
def F64 (x0 : ByteArray) (x1 : ByteArray) (x2 : ByteArray) : Option (ByteArray) := (catI x0 ((⟨#[47]⟩ : ByteArray))).bind fun s1 => (catI s1 x1).bind fun s2 => (catI s2 ((⟨#[47]⟩ : ByteArray))).bind fun s3 => (catI s3 x2).bind fun s4 => some s4
def a64 : AFn := ⟨14, [(.tmp 6)],
 (.seq (.reg [⟨(some 6), none, .mv (kS ⟨#[]⟩), [], (.new [])⟩])
 (.seq (.reg [⟨(some 7), none, .mv (.t 0), [], (.new [])⟩,
   ⟨(some 8), none, .bin .add (.t 7) (kS ⟨#[47]⟩), [], (.new [])⟩,
   ⟨(some 9), none, .mv (.t 1), [], (.new [])⟩,
   ⟨(some 10), none, .bin .add (.t 8) (.t 9), [], (.new [])⟩,
   ⟨(some 11), none, .bin .add (.t 10) (kS ⟨#[47]⟩), [], (.new [])⟩,
   ⟨(some 12), none, .mv (.t 2), [], (.new [])⟩,
   ⟨(some 13), none, .bin .add (.t 11) (.t 12), [], (.new [])⟩,
   ⟨(some 6), none, .mv (.t 13), [], (.new [])⟩])
 .ret))⟩
theorem a64_ok : afn Try.prog 64 = some a64.er := by kernel_rfl
theorem F64_ok {x0 : ByteArray} {x1 : ByteArray} {x2 : ByteArray} {r : ByteArray} (h : F64 x0 x1 x2 = some r) : CallD Try.prog 64 [.c (.d (.v (.string x0))), .c (.d (.v (.string x1))), .c (.d (.v (.string x2)))] [] (tupV [.c (.d (.v (.string r)))]) [] := by
  refine callS a64_ok (by simp [a64]) ?_
  rw [F64] at h
  simp only [a64, VW.down, Nat.reduceEqDiff, reduceCtorEq, Nat.reduceAdd, Nat.reduceLeDiff, Nat.reduceLT, Nat.reduceBEq, Nat.reduceSub, EE.down]
  obtain ⟨s1, hs1, h⟩ := Option.bind_eq_some_iff.1 h
  obtain ⟨hle, rfl⟩ := cat_some hs1
  refine ⟨hle, ?_⟩
  try simp only [VW.down, Nat.reduceEqDiff, reduceCtorEq, Nat.reduceAdd, Nat.reduceLeDiff, Nat.reduceLT, Nat.reduceBEq, Nat.reduceSub, EE.down]
  obtain ⟨s2, hs2, h⟩ := Option.bind_eq_some_iff.1 h
  obtain ⟨hle, rfl⟩ := cat_some hs2
  refine ⟨hle, ?_⟩
  try simp only [VW.down, Nat.reduceEqDiff, reduceCtorEq, Nat.reduceAdd, Nat.reduceLeDiff, Nat.reduceLT, Nat.reduceBEq, Nat.reduceSub, EE.down]
  obtain ⟨s3, hs3, h⟩ := Option.bind_eq_some_iff.1 h
  obtain ⟨hle, rfl⟩ := cat_some hs3
  refine ⟨hle, ?_⟩
  try simp only [VW.down, Nat.reduceEqDiff, reduceCtorEq, Nat.reduceAdd, Nat.reduceLeDiff, Nat.reduceLT, Nat.reduceBEq, Nat.reduceSub, EE.down]
  obtain ⟨s4, hs4, h⟩ := Option.bind_eq_some_iff.1 h
  obtain ⟨hle, rfl⟩ := cat_some hs4
  refine ⟨hle, ?_⟩
  try simp only [VW.down, Nat.reduceEqDiff, reduceCtorEq, Nat.reduceAdd, Nat.reduceLeDiff, Nat.reduceLT, Nat.reduceBEq, Nat.reduceSub, EE.down]
  obtain rfl := Option.some.inj h
  exact eF []

/- orchestrator/orchestratorref13.KeyOf -/
def F41 (x0 : Meta) : Option (ByteArray) := (F64 x0.Kind x0.Namespace x0.Name).bind fun t1 => some t1
def a41 : AFn := ⟨10, [(.tmp 2)],
 (.seq (.reg [⟨(some 1), none, .box (.t 0), [], (.new [])⟩,
   ⟨(some 2), none, .mv (kS ⟨#[]⟩), [], (.new [])⟩])
 (.seq (.reg [⟨(some 3), none, .fieldA 0 (.t 1), [], (.new [])⟩,
   ⟨(some 4), none, .load none (.t 3), [], (.new [])⟩,
   ⟨(some 5), none, .fieldA 1 (.t 1), [], (.new [])⟩,
   ⟨(some 6), none, .load none (.t 5), [], (.new [])⟩,
   ⟨(some 7), none, .fieldA 2 (.t 1), [], (.new [])⟩,
   ⟨(some 8), none, .load none (.t 7), [], (.new [])⟩,
   ⟨(some 9), none, .call 64 [(.t 4), (.t 6), (.t 8)], [], (.new [])⟩,
   ⟨(some 2), none, .mv (.t 9), [], (.new [])⟩])
 .ret))⟩
theorem a41_ok : afn Try.prog 41 = some a41.er := by kernel_rfl
theorem F41_ok {x0 : Meta} {r : ByteArray} (h : F41 x0 = some r) : CallD Try.prog 41 [.agg [.d (.v (.string x0.Kind)), .d (.v (.string x0.Namespace)), .d (.v (.string x0.Name)), .d (.v (.int .i64 x0.Uid)), .d (.v (.int .i64 x0.Version)), .d (.v (.int .i64 x0.Generation)), .d (.v (.int .i64 x0.Created)), .d (.v (.bool x0.Deleting)), .d (.v (.int .i64 x0.DeleteAt)), .d (.sl (x0.Labels.map eLabel)), .d (.sl (x0.Owners.map eOwner)), .d (.sl (x0.Finalizers.map eS)), .d (.sl (x0.Managers.map eManager))]] [] (tupV [.c (.d (.v (.string r)))]) [] := by
  refine callS a41_ok (by simp [a41]) ?_
  rw [F41] at h
  simp only [a41, VW.down, Nat.reduceEqDiff, reduceCtorEq, Nat.reduceAdd, Nat.reduceLeDiff, Nat.reduceLT, Nat.reduceBEq, Nat.reduceSub, EE.down]
  obtain ⟨t1, ht1, h⟩ := Option.bind_eq_some_iff.1 h
  refine callX_n [] (F64_ok ht1) ?_ ?_ ?_ ?_ ?_ ?_
  · first | rfl | simp [nrmA, nrmC, nrm, A1.ren, C.ren, rn, List.length_set]
  · simp [liveAll, A1.live, C.live]
  · rfl
  · decide
  · exact trivial
  simp only [VW.down, Nat.reduceEqDiff, reduceCtorEq, Nat.reduceAdd, Nat.reduceLeDiff, Nat.reduceLT, Nat.reduceBEq, Nat.reduceSub, EE.down]
  obtain rfl := Option.some.inj h
  exact eF []

/- orchestrator/orchestratorref54.Set -/
def F40_l1 (x1 : ByteArray) : List ByteArray → Nat → (List ByteArray) → Bool → Option ((List ByteArray) × Bool)
  | [], o1_2, o1_0, o1_1 => some ((o1_0, o1_1))
  | xo1 :: xs, o1_2, o1_0, o1_1 => (((((((if (nb o1_1) = true then some (nb (Op.bytesLess xo1.toList x1.toList)) else some false)).bind fun o5 => (if o5 = true then (apI o1_0 ([x1])).bind fun a8 => some ((a8, true)) else some ((o1_0, o1_1))))).bind fun o4 => (if ¬ (xo1 = x1) then (apI o4.1 ([xo1])).bind fun a10 => some ((a10, o4.2)) else some ((o4.1, o4.2))))).bind fun o3 => F40_l1 x1 xs (o1_2 + 1) o3.1 o3.2)
def F40 (x0 : (List ByteArray)) (x1 : ByteArray) : Option ((List ByteArray)) := (((ck (0 ≤ x0.length ∧ x0.length ≤ 4294967290)).bind fun u11 => F40_l1 x1 x0 0 ([]) false).bind fun o1 => (if (nb o1.2) = true then (apI o1.1 ([x1])).bind fun a13 => some a13 else some o1.1))
def a40 : AFn := ⟨48, [(.tmp 4)],
 (.seq (.reg [⟨(some 4), none, .mv kN, [], (.new [])⟩])
 (.seq (.reg [⟨(some 5), none, .mv kN, [], (.new [])⟩])
 (.seq (.reg [⟨(some 6), none, .mv (kB false), [], (.new [])⟩])
 (.seq (.seq (.reg [⟨(some 7), none, .mv (kI 0), [], (.new [])⟩])
 (.sem (.block 0 (.loop (.seq (.seq (.reg [⟨(some 8), none, .mv (.t 7), [], (.new [])⟩,
   ⟨(some 9), none, .mv (.t 0), [], (.new [])⟩,
   ⟨(some 10), none, .len (.t 9), [], (.new [])⟩,
   ⟨(some 11), none, .bin .lss (.t 8) (.t 10), [], (.new [])⟩])
 (.cond (.t 11)
 .skip
 (.exit 0)))
 (.seq (.sem (.block 1 (.seq (.sem (.seq (.sem (.reg [⟨(some 14), none, .mv (.t 6), [], (.new [])⟩,
   ⟨(some 15), none, .not (.t 14), [], (.new [])⟩,
   ⟨(some 16), none, .mv (.t 15), [], (.new [])⟩,
   ⟨(some 17), (some (16, true)), .mv (.t 0), [], (.new [])⟩,
   ⟨(some 18), (some (16, true)), .mv (.t 7), [], (.new [])⟩,
   ⟨(some 19), (some (16, true)), .indexA 1 (.t 17) (.t 18), [], (.new [])⟩,
   ⟨(some 20), (some (16, true)), .load none (.t 19), [], (.new [])⟩,
   ⟨(some 21), (some (16, true)), .mv (.t 1), [], (.new [])⟩,
   ⟨(some 22), (some (16, true)), .bin .geq (.t 20) (.t 21), [], (.new [])⟩,
   ⟨(some 23), none, .pick (.t 16) (.t 22) (kB false), [], (.lone [17, 19])⟩]))
 (.cond (.t 23)
 (.seq (.reg [⟨(some 24), none, .mv (.t 5), [], (.new [])⟩,
   ⟨(some 25), none, .mv (.t 1), [], (.new [])⟩,
   ⟨(some 26), none, .bslice 1 [(.t 25)], [], (.new [])⟩,
   ⟨(some 27), none, .app 1 16 (.t 24) (.t 26), [], (.new [])⟩,
   ⟨(some 5), none, .mv (.t 27), [], (.new [])⟩])
 (.reg [⟨(some 6), none, .mv (kB true), [], (.new [])⟩]))
 .skip)))
 (.seq (.reg [⟨(some 28), none, .mv (.t 0), [], (.new [])⟩,
   ⟨(some 29), none, .mv (.t 7), [], (.new [])⟩,
   ⟨(some 30), none, .indexA 1 (.t 28) (.t 29), [], (.new [])⟩,
   ⟨(some 31), none, .load none (.t 30), [], (.new [])⟩,
   ⟨(some 32), none, .mv (.t 1), [], (.new [])⟩,
   ⟨(some 33), none, .bin .neq (.t 31) (.t 32), [], (.new [])⟩])
 (.cond (.t 33)
 (.reg [⟨(some 34), none, .mv (.t 5), [], (.new [])⟩,
   ⟨(some 35), none, .mv (.t 0), [], (.new [])⟩,
   ⟨(some 36), none, .mv (.t 7), [], (.new [])⟩,
   ⟨(some 37), none, .indexA 1 (.t 35) (.t 36), [], (.new [])⟩,
   ⟨(some 38), none, .load none (.t 37), [], (.new [])⟩,
   ⟨(some 39), none, .bslice 1 [(.t 38)], [], (.new [])⟩,
   ⟨(some 40), none, .app 1 16 (.t 34) (.t 39), [], (.new [])⟩,
   ⟨(some 5), none, .mv (.t 40), [], (.new [])⟩])
 .skip)))))
 (.reg [⟨(some 12), none, .mv (.t 7), [], (.new [])⟩,
   ⟨(some 13), none, .bin .add (.t 12) (kI 1), [], (.new [])⟩,
   ⟨(some 7), none, .mv (.t 13), [], (.new [])⟩])))))))
 (.seq (.seq (.reg [⟨(some 41), none, .mv (.t 6), [], (.new [])⟩,
   ⟨(some 42), none, .not (.t 41), [], (.new [])⟩])
 (.cond (.t 42)
 (.reg [⟨(some 43), none, .mv (.t 5), [], (.new [])⟩,
   ⟨(some 44), none, .mv (.t 1), [], (.new [])⟩,
   ⟨(some 45), none, .bslice 1 [(.t 44)], [], (.new [])⟩,
   ⟨(some 46), none, .app 1 16 (.t 43) (.t 45), [], (.new [])⟩,
   ⟨(some 5), none, .mv (.t 46), [], (.new [])⟩])
 .skip))
 (.seq (.reg [⟨(some 47), none, .mv (.t 5), [], (.new [])⟩,
   ⟨(some 4), none, .mv (.t 47), [], (.new [])⟩])
 .ret))))))⟩
theorem a40_ok : afn Try.prog 40 = some a40.er := by kernel_rfl
theorem F40_ok {x0 : (List ByteArray)} {x1 : ByteArray} {r : (List ByteArray)} (h : F40 x0 x1 = some r) : CallD Try.prog 40 [.c (.d (.sl (x0.map eS))), .c (.d (.v (.string x1)))] [] (tupV [.c (.own 0 0 0 (r.length) none)]) [some (.arr 0 1 (r.map eS))] := by
  refine callS a40_ok (by simp [a40]) ?_
  rw [F40] at h
  simp only [a40, VW.down, Nat.reduceEqDiff, reduceCtorEq, Nat.reduceAdd, Nat.reduceLeDiff, Nat.reduceLT, Nat.reduceBEq, Nat.reduceSub, EE.down]
  obtain ⟨o1, ho, h⟩ := Option.bind_eq_some_iff.1 h
  refine cutS (fun s => s = ⟨[(1, .one (.c (.d (.v (.string x1))))), (5, .one (.c (.own 0 0 0 (o1.1.length) none))), (6, .one (.c (.d (.v (.bool o1.2)))))], [some (.arr 0 1 (o1.1.map eS))]⟩) ?_ ?_
  · have h := ho
    clear ho
    obtain ⟨_, hk, h⟩ := Option.bind_eq_some_iff.1 h
    have hk := ck_some hk
    simp only [VW.down, Nat.reduceEqDiff, reduceCtorEq, Nat.reduceAdd, Nat.reduceLeDiff, Nat.reduceLT, Nat.reduceBEq, Nat.reduceSub, EE.down]
    refine bL (fun j s => ∃ (o1_2 : Nat) (o1_0 : List ByteArray) (o1_1 : Bool), (o1_2 ≤ x0.length ∧ j = x0.length - o1_2) ∧ s = ⟨[(0, .one (.c (.d (.sl (x0.map eS))))), (1, .one (.c (.d (.v (.string x1))))), (5, .one (.c (.own 0 0 0 (o1_0.length) none))), (6, .one (.c (.d (.v (.bool o1_1))))), (7, .one (.c (.d (.v (.int .i64 ((o1_2 : Int)))))))], [some (.arr 0 1 (o1_0.map eS))]⟩ ∧ F40_l1 x1 (x0.drop o1_2) o1_2 o1_0 o1_1 = some o1) (x0.length - 0) [none] ⟨0, [], false, ⟨hk.1, rfl⟩, rfl, h⟩ ?_
    rintro _ _ ⟨o1_2, o1_0, o1_1, ⟨hi, rfl⟩, rfl, h⟩
    simp only [VW.down, Nat.reduceEqDiff, reduceCtorEq, Nat.reduceAdd, Nat.reduceLeDiff, Nat.reduceLT, Nat.reduceBEq, Nat.reduceSub, EE.down]
    refine condS (fun c2 => ?_) (fun c2 => ?_)
    · obtain ⟨xo1, hxo1, hd⟩ := countY (show (o1_2 : Int) < (x0.length : Int) from c2)
      rw [hd, F40_l1] at h
      simp only [VW.down, Nat.reduceEqDiff, reduceCtorEq, Nat.reduceAdd, Nat.reduceLeDiff, Nat.reduceLT, Nat.reduceBEq, Nat.reduceSub, EE.down]
      obtain ⟨o3, ho, h⟩ := Option.bind_eq_some_iff.1 h
      refine cutS (fun s => s = ⟨[(0, .one (.c (.d (.sl (x0.map eS))))), (1, .one (.c (.d (.v (.string x1))))), (5, .one (.c (.own 0 0 0 (o3.1.length) none))), (6, .one (.c (.d (.v (.bool o3.2))))), (7, .one (.c (.d (.v (.int .i64 ((o1_2 : Int)))))))], [some (.arr 0 1 (o3.1.map eS))]⟩) ?_ ?_
      · have h := ho
        clear ho
        simp only [VW.down, Nat.reduceEqDiff, reduceCtorEq, Nat.reduceAdd, Nat.reduceLeDiff, Nat.reduceLT, Nat.reduceBEq, Nat.reduceSub, EE.down]
        obtain ⟨o4, ho, h⟩ := Option.bind_eq_some_iff.1 h
        refine cutS (fun s => s = ⟨[(0, .one (.c (.d (.sl (x0.map eS))))), (1, .one (.c (.d (.v (.string x1))))), (5, .one (.c (.own 0 0 0 (o4.1.length) none))), (6, .one (.c (.d (.v (.bool o4.2))))), (7, .one (.c (.d (.v (.int .i64 ((o1_2 : Int)))))))], [some (.arr 0 1 (o4.1.map eS))]⟩) ?_ ?_
        · have h := ho
          clear ho
          simp only [VW.down, Nat.reduceEqDiff, reduceCtorEq, Nat.reduceAdd, Nat.reduceLeDiff, Nat.reduceLT, Nat.reduceBEq, Nat.reduceSub, EE.down]
          obtain ⟨o5, ho, h⟩ := Option.bind_eq_some_iff.1 h
          refine cutS (fun s => s = ⟨[(0, .one (.c (.d (.sl (x0.map eS))))), (1, .one (.c (.d (.v (.string x1))))), (5, .one (.c (.own 0 0 0 (o1_0.length) none))), (6, .one (.c (.d (.v (.bool o1_1))))), (7, .one (.c (.d (.v (.int .i64 ((o1_2 : Int))))))), (23, .one (.c (.d (.v (.bool o5)))))], [some (.arr 0 1 (o1_0.map eS))]⟩) ?_ ?_
          · have h := ho
            clear ho
            simp only [VW.down, Nat.reduceEqDiff, reduceCtorEq, Nat.reduceAdd, Nat.reduceLeDiff, Nat.reduceLT, Nat.reduceBEq, Nat.reduceSub, EE.down]
            refine guardSB (fun g6 => ?_) (fun g6 => ?_)
            · have h := (if_pos g6).symm.trans h
              simp only [VW.down, Nat.reduceEqDiff, reduceCtorEq, Nat.reduceAdd, Nat.reduceLeDiff, Nat.reduceLT, Nat.reduceBEq, Nat.reduceSub, EE.down]
              refine t_idxF (enc := eS) (xs := x0) rfl rfl hxo1 rfl ?_
              simp only [VW.down, Nat.reduceEqDiff, reduceCtorEq, Nat.reduceAdd, Nat.reduceLeDiff, Nat.reduceLT, Nat.reduceBEq, Nat.reduceSub, EE.down]
              obtain rfl := Option.some.inj h
              exact eM [some 0] rfl
            · have h := (if_neg g6).symm.trans h
              simp only [VW.down, Nat.reduceEqDiff, reduceCtorEq, Nat.reduceAdd, Nat.reduceLeDiff, Nat.reduceLT, Nat.reduceBEq, Nat.reduceSub, EE.down]
              obtain rfl := Option.some.inj h
              exact eM [some 0] rfl
          · rintro _ rfl
            clear ho
            simp only [VW.down, Nat.reduceEqDiff, reduceCtorEq, Nat.reduceAdd, Nat.reduceLeDiff, Nat.reduceLT, Nat.reduceBEq, Nat.reduceSub, EE.down]
            refine condB (fun c7 => ?_) (fun c7 => ?_)
            · have h := (if_pos c7).symm.trans h
              simp only [VW.down, Nat.reduceEqDiff, reduceCtorEq, Nat.reduceAdd, Nat.reduceLeDiff, Nat.reduceLT, Nat.reduceBEq, Nat.reduceSub, EE.down]
              refine t_bslice (enc := eS) (ys := [x1]) rfl rfl (by simp [A1.cells]) (by first | rfl | (simp only [List.drop_zero, take_mapL]; rfl)) ?_
              simp only [VW.down, Nat.reduceEqDiff, reduceCtorEq, Nat.reduceAdd, Nat.reduceLeDiff, Nat.reduceLT, Nat.reduceBEq, Nat.reduceSub, EE.down]
              obtain ⟨a8, ha8, h⟩ := Option.bind_eq_some_iff.1 h
              refine t_app (enc := eS) (xs := o1_0) rfl rfl (by first | rfl | simp only [List.length_set] | exact (clrL_len (slI_len (by assumption))).symm) rfl (rows_full (enc := eS) (by first | rfl | simp only [List.length_set] | exact (clrL_len (slI_len (by assumption))).symm) rfl) ha8 ?_
              simp only [VW.down, Nat.reduceEqDiff, reduceCtorEq, Nat.reduceAdd, Nat.reduceLeDiff, Nat.reduceLT, Nat.reduceBEq, Nat.reduceSub, EE.down]
              obtain rfl := Option.some.inj h
              exact eM [some 0] rfl
            · have h := (if_neg c7).symm.trans h
              simp only [VW.down, Nat.reduceEqDiff, reduceCtorEq, Nat.reduceAdd, Nat.reduceLeDiff, Nat.reduceLT, Nat.reduceBEq, Nat.reduceSub, EE.down]
              obtain rfl := Option.some.inj h
              exact eM [some 0] rfl
        · rintro _ rfl
          clear ho
          simp only [VW.down, Nat.reduceEqDiff, reduceCtorEq, Nat.reduceAdd, Nat.reduceLeDiff, Nat.reduceLT, Nat.reduceBEq, Nat.reduceSub, EE.down]
          refine t_idxF (enc := eS) (xs := x0) rfl rfl hxo1 rfl ?_
          simp only [VW.down, Nat.reduceEqDiff, reduceCtorEq, Nat.reduceAdd, Nat.reduceLeDiff, Nat.reduceLT, Nat.reduceBEq, Nat.reduceSub, EE.down]
          refine condS (fun c9 => ?_) (fun c9 => ?_)
          · have h := (if_pos c9).symm.trans h
            simp only [VW.down, Nat.reduceEqDiff, reduceCtorEq, Nat.reduceAdd, Nat.reduceLeDiff, Nat.reduceLT, Nat.reduceBEq, Nat.reduceSub, EE.down]
            refine t_idxF (enc := eS) (xs := x0) rfl rfl hxo1 rfl ?_
            simp only [VW.down, Nat.reduceEqDiff, reduceCtorEq, Nat.reduceAdd, Nat.reduceLeDiff, Nat.reduceLT, Nat.reduceBEq, Nat.reduceSub, EE.down]
            refine t_bslice (enc := eS) (ys := [xo1]) rfl rfl (by simp [A1.cells]) (by first | rfl | (simp only [List.drop_zero, take_mapL]; rfl)) ?_
            simp only [VW.down, Nat.reduceEqDiff, reduceCtorEq, Nat.reduceAdd, Nat.reduceLeDiff, Nat.reduceLT, Nat.reduceBEq, Nat.reduceSub, EE.down]
            obtain ⟨a10, ha10, h⟩ := Option.bind_eq_some_iff.1 h
            refine t_app (enc := eS) (xs := o4.1) rfl rfl (by first | rfl | simp only [List.length_set] | exact (clrL_len (slI_len (by assumption))).symm) rfl (rows_full (enc := eS) (by first | rfl | simp only [List.length_set] | exact (clrL_len (slI_len (by assumption))).symm) rfl) ha10 ?_
            simp only [VW.down, Nat.reduceEqDiff, reduceCtorEq, Nat.reduceAdd, Nat.reduceLeDiff, Nat.reduceLT, Nat.reduceBEq, Nat.reduceSub, EE.down]
            obtain rfl := Option.some.inj h
            exact eM [some 0] rfl
          · have h := (if_neg c9).symm.trans h
            simp only [VW.down, Nat.reduceEqDiff, reduceCtorEq, Nat.reduceAdd, Nat.reduceLeDiff, Nat.reduceLT, Nat.reduceBEq, Nat.reduceSub, EE.down]
            obtain rfl := Option.some.inj h
            exact eM [some 0] rfl
      · rintro _ rfl
        clear ho
        simp only [VW.down, Nat.reduceEqDiff, reduceCtorEq, Nat.reduceAdd, Nat.reduceLeDiff, Nat.reduceLT, Nat.reduceBEq, Nat.reduceSub, EE.down]
        rw [wrapN (by omega)]
        exact eL' (x0.length - (o1_2 + 1)) [some 0] ⟨o1_2 + 1, o3.1, o3.2, ⟨by omega, rfl⟩, rfl, h⟩ (by omega)
    · rw [countN (show ¬ ((o1_2 : Int) < (x0.length : Int)) from c2), F40_l1] at h
      simp only [VW.down, Nat.reduceEqDiff, reduceCtorEq, Nat.reduceAdd, Nat.reduceLeDiff, Nat.reduceLT, Nat.reduceBEq, Nat.reduceSub, EE.down]
      obtain rfl := Option.some.inj h
      exact eM [some 0] rfl
  · rintro _ rfl
    clear ho
    simp only [VW.down, Nat.reduceEqDiff, reduceCtorEq, Nat.reduceAdd, Nat.reduceLeDiff, Nat.reduceLT, Nat.reduceBEq, Nat.reduceSub, EE.down]
    refine condB (fun c12 => ?_) (fun c12 => ?_)
    · have h := (if_pos c12).symm.trans h
      simp only [VW.down, Nat.reduceEqDiff, reduceCtorEq, Nat.reduceAdd, Nat.reduceLeDiff, Nat.reduceLT, Nat.reduceBEq, Nat.reduceSub, EE.down]
      refine t_bslice (enc := eS) (ys := [x1]) rfl rfl (by simp [A1.cells]) (by first | rfl | (simp only [List.drop_zero, take_mapL]; rfl)) ?_
      simp only [VW.down, Nat.reduceEqDiff, reduceCtorEq, Nat.reduceAdd, Nat.reduceLeDiff, Nat.reduceLT, Nat.reduceBEq, Nat.reduceSub, EE.down]
      obtain ⟨a13, ha13, h⟩ := Option.bind_eq_some_iff.1 h
      refine t_app (enc := eS) (xs := o1.1) rfl rfl (by first | rfl | simp only [List.length_set] | exact (clrL_len (slI_len (by assumption))).symm) rfl (rows_full (enc := eS) (by first | rfl | simp only [List.length_set] | exact (clrL_len (slI_len (by assumption))).symm) rfl) ha13 ?_
      simp only [VW.down, Nat.reduceEqDiff, reduceCtorEq, Nat.reduceAdd, Nat.reduceLeDiff, Nat.reduceLT, Nat.reduceBEq, Nat.reduceSub, EE.down]
      obtain rfl := Option.some.inj h
      exact eF [some 0]
    · have h := (if_neg c12).symm.trans h
      simp only [VW.down, Nat.reduceEqDiff, reduceCtorEq, Nat.reduceAdd, Nat.reduceLeDiff, Nat.reduceLT, Nat.reduceBEq, Nat.reduceSub, EE.down]
      obtain rfl := Option.some.inj h
      exact eF [some 0]
end Go.Proofs.Ytihhlgbcbmoblaa
