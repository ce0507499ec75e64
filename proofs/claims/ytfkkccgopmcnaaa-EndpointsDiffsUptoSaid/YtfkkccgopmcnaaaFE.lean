/- Contracts of slices.Clone, slices.Insert, slices.Delete, and of the compare of strings. -/
import Derived.Test.YtfkkccgopmcnaaaFP
import Derived.Lib.Bytealg
import Derived.Laws.Externs
import Derived.Shelf.Sort.Plain
import Derived.Shelf.Slices.In.SortNone
import Derived.Shelf.Slices.CompactS
import Derived.Lib.RowBridge
import Derived.Shelf.SlIter.Collect
import Derived.Shelf.SlIter.Sorted
set_option linter.unusedVariables false
set_option linter.unusedSimpArgs false
set_option linter.unusedSectionVars false
namespace Go.Fw
set_option maxRecDepth 100000
set_option maxHeartbeats 4000000
/-! The library: slices.Clone, Insert, Delete. -/
def cloneA (sz bt : Nat) : AFn := ⟨8, [(.tmp 2)],
 (.seq (.reg [⟨(some 2), none, .mv kN, [], (.new [])⟩])
 (.seq (.seq (.reg [⟨(some 3), none, .mv (.t 0), [], (.new [])⟩,
   ⟨(some 4), none, .eqnil false (.t 3), [], (.lone [])⟩])
 (.cond (.t 4)
 (.seq (.reg [⟨(some 2), none, .mv kN, [], (.new [])⟩])
 .ret)
 .skip))
 (.seq (.reg [⟨(some 5), none, .bslice sz [], [], (.new [])⟩,
   ⟨(some 6), none, .mv (.t 0), [], (.new [])⟩,
   ⟨(some 7), none, .app sz bt (.t 5) (.t 6), [], (.new [])⟩,
   ⟨(some 2), none, .mv (.t 7), [], (.new [])⟩])
 .ret)))⟩

def insertA (sz bt : Nat) (z : List D) (g : FuncId) (rr : FuncId) : AFn := ⟨95, [(.tmp 6)],
 (.seq (.reg [⟨(some 6), none, .mv kN, [], (.new [])⟩])
 (.seq (.reg [⟨(some 10), none, .mv (.t 0), [], (.new [])⟩,
   ⟨(some 11), none, .mv (.t 1), [], (.new [])⟩,
   ⟨(some 12), none, .slice sz (.t 10) (some (.t 11)) none none, [], (.lone [])⟩])
 (.seq (.reg [⟨(some 13), none, .mv (.t 2), [], (.new [])⟩,
   ⟨(some 14), none, .len (.t 13), [], (.new [])⟩,
   ⟨(some 7), none, .mv (.t 14), [], (.new [])⟩])
 (.seq (.seq (.reg [⟨(some 15), none, .mv (.t 7), [], (.new [])⟩,
   ⟨(some 16), none, .bin .eql (.t 15) (kI 0), [], (.new [])⟩])
 (.cond (.t 16)
 (.seq (.reg [⟨(some 17), none, .mv (.t 0), [], (.new [])⟩,
   ⟨(some 6), none, .mv (.t 17), [], (.new [])⟩])
 .ret)
 .skip))
 (.seq (.reg [⟨(some 18), none, .mv (.t 0), [], (.new [])⟩,
   ⟨(some 19), none, .len (.t 18), [], (.new [])⟩,
   ⟨(some 8), none, .mv (.t 19), [], (.new [])⟩])
 (.seq (.seq (.reg [⟨(some 20), none, .mv (.t 1), [], (.new [])⟩,
   ⟨(some 21), none, .mv (.t 8), [], (.new [])⟩,
   ⟨(some 22), none, .bin .eql (.t 20) (.t 21), [], (.new [])⟩])
 (.cond (.t 22)
 (.seq (.reg [⟨(some 23), none, .mv (.t 0), [], (.new [])⟩,
   ⟨(some 24), none, .mv (.t 2), [], (.new [])⟩,
   ⟨(some 25), none, .app sz bt (.t 23) (.t 24), [], (.new [])⟩,
   ⟨(some 6), none, .mv (.t 25), [], (.new [])⟩])
 .ret)
 .skip))
 (.seq (.seq (.reg [⟨(some 26), none, .mv (.t 8), [], (.new [])⟩,
   ⟨(some 27), none, .mv (.t 7), [], (.new [])⟩,
   ⟨(some 28), none, .bin .add (.t 26) (.t 27), [], (.new [])⟩,
   ⟨(some 29), none, .mv (.t 0), [], (.new [])⟩,
   ⟨(some 30), none, .cap (.t 29), [], (.new [])⟩,
   ⟨(some 31), none, .bin .gtr (.t 28) (.t 30), [], (.new [])⟩])
 (.cond (.t 31)
 (.seq (.reg [⟨(some 32), none, .mv (.t 0), [], (.new [])⟩,
   ⟨(some 33), none, .mv (.t 1), [], (.new [])⟩,
   ⟨(some 34), none, .slice sz (.t 32) none (some (.t 33)) none, [], (.new [])⟩,
   ⟨(some 35), none, .mv (.t 8), [], (.new [])⟩,
   ⟨(some 36), none, .mv (.t 7), [], (.new [])⟩,
   ⟨(some 37), none, .bin .add (.t 35) (.t 36), [], (.new [])⟩,
   ⟨(some 38), none, .mv (.t 1), [], (.new [])⟩,
   ⟨(some 39), none, .bin .sub (.t 37) (.t 38), [], (.new [])⟩,
   ⟨(some 40), none, .appz sz bt z (.t 34) (.t 39), [], (.new [])⟩,
   ⟨(some 9), none, .mv (.t 40), [], (.new [])⟩])
 (.seq (.reg [⟨(some 41), none, .mv (.t 9), [], (.new [])⟩,
   ⟨(some 42), none, .mv (.t 1), [], (.new [])⟩,
   ⟨(some 43), none, .slice sz (.t 41) (some (.t 42)) none none, [], (.new [])⟩,
   ⟨(some 44), none, .mv (.t 2), [], (.new [])⟩,
   ⟨(some 45), none, .copy sz (.t 43) (.t 44), [], (.new [])⟩])
 (.seq (.regd [⟨(some 46), none, .mv (.t 9), [], (.new [])⟩,
   ⟨(some 47), none, .mv (.t 1), [], (.new [])⟩,
   ⟨(some 48), none, .mv (.t 7), [], (.new [])⟩,
   ⟨(some 49), none, .bin .add (.t 47) (.t 48), [1, 2], (.new [])⟩,
   ⟨(some 50), none, .slice sz (.t 46) (some (.t 49)) none none, [0, 1, 2, 3], (.new [])⟩,
   ⟨(some 51), none, .mv (.t 0), [], (.new [])⟩,
   ⟨(some 52), none, .mv (.t 1), [], (.new [])⟩,
   ⟨(some 53), none, .slice sz (.t 51) (some (.t 52)) none none, [5, 6], (.new [])⟩,
   ⟨(some 54), none, .copy sz (.t 50) (.t 53), [0, 1, 2, 3, 4, 5, 6, 7], (.lone [])⟩])
 (.seq (.reg [⟨(some 55), none, .mv (.t 9), [], (.new [])⟩,
   ⟨(some 6), none, .mv (.t 55), [], (.new [])⟩])
 .ret))))
 .skip))
 (.seq (.reg [⟨(some 56), none, .mv (.t 0), [], (.new [])⟩,
   ⟨(some 57), none, .mv (.t 8), [], (.new [])⟩,
   ⟨(some 58), none, .mv (.t 7), [], (.new [])⟩,
   ⟨(some 59), none, .bin .add (.t 57) (.t 58), [], (.new [])⟩,
   ⟨(some 60), none, .slice sz (.t 56) none (some (.t 59)) none, [], (.new [])⟩,
   ⟨(some 0), none, .mv (.t 60), [], (.new [])⟩])
 (.seq (.seq (.reg [⟨(some 61), none, .mv (.t 2), [], (.new [])⟩,
   ⟨(some 62), none, .mv (.t 0), [], (.new [])⟩,
   ⟨(some 63), none, .mv (.t 1), [], (.new [])⟩,
   ⟨(some 64), none, .mv (.t 7), [], (.new [])⟩,
   ⟨(some 65), none, .bin .add (.t 63) (.t 64), [], (.new [])⟩,
   ⟨(some 66), none, .slice sz (.t 62) (some (.t 65)) none none, [], (.new [])⟩,
   ⟨(some 67), none, .call g [(.t 61), (.t 66)], [], (.new [])⟩,
   ⟨(some 68), none, .not (.t 67), [], (.new [])⟩])
 (.cond (.t 68)
 (.seq (.regd [⟨(some 69), none, .mv (.t 0), [], (.new [])⟩,
   ⟨(some 70), none, .mv (.t 1), [], (.new [])⟩,
   ⟨(some 71), none, .mv (.t 7), [], (.new [])⟩,
   ⟨(some 72), none, .bin .add (.t 70) (.t 71), [1, 2], (.new [])⟩,
   ⟨(some 73), none, .slice sz (.t 69) (some (.t 72)) none none, [0, 1, 2, 3], (.new [])⟩,
   ⟨(some 74), none, .mv (.t 0), [], (.new [])⟩,
   ⟨(some 75), none, .mv (.t 1), [], (.new [])⟩,
   ⟨(some 76), none, .slice sz (.t 74) (some (.t 75)) none none, [5, 6], (.new [])⟩,
   ⟨(some 77), none, .copy sz (.t 73) (.t 76), [0, 1, 2, 3, 4, 5, 6, 7], (.lone [])⟩])
 (.seq (.reg [⟨(some 78), none, .mv (.t 0), [], (.new [])⟩,
   ⟨(some 79), none, .mv (.t 1), [], (.new [])⟩,
   ⟨(some 80), none, .slice sz (.t 78) (some (.t 79)) none none, [], (.new [])⟩,
   ⟨(some 81), none, .mv (.t 2), [], (.new [])⟩,
   ⟨(some 82), none, .copy sz (.t 80) (.t 81), [], (.new [])⟩])
 (.seq (.reg [⟨(some 83), none, .mv (.t 0), [], (.new [])⟩,
   ⟨(some 6), none, .mv (.t 83), [], (.new [])⟩])
 .ret)))
 .skip))
 (.seq (.reg [⟨(some 84), none, .mv (.t 0), [], (.new [])⟩,
   ⟨(some 85), none, .mv (.t 8), [], (.new [])⟩,
   ⟨(some 86), none, .slice sz (.t 84) (some (.t 85)) none none, [], (.new [])⟩,
   ⟨(some 87), none, .mv (.t 2), [], (.new [])⟩,
   ⟨(some 88), none, .copy sz (.t 86) (.t 87), [], (.new [])⟩])
 (.seq (.reg [⟨(some 89), none, .mv (.t 0), [], (.new [])⟩,
   ⟨(some 90), none, .mv (.t 1), [], (.new [])⟩,
   ⟨(some 91), none, .slice sz (.t 89) (some (.t 90)) none none, [], (.new [])⟩,
   ⟨(some 92), none, .mv (.t 7), [], (.new [])⟩,
   ⟨(some 93), none, .call rr [(.t 91), (.t 92)], [], (.new [])⟩])
 (.seq (.reg [⟨(some 94), none, .mv (.t 0), [], (.new [])⟩,
   ⟨(some 6), none, .mv (.t 94), [], (.new [])⟩])
 .ret))))))))))))⟩

def deleteA (sz bt : Nat) (z : List D) : AFn := ⟨33, [(.tmp 6)],
 (.seq (.reg [⟨(some 6), none, .mv kN, [], (.new [])⟩])
 (.seq (.reg [⟨(some 8), none, .mv (.t 0), [], (.new [])⟩,
   ⟨(some 9), none, .mv (.t 1), [], (.new [])⟩,
   ⟨(some 10), none, .mv (.t 2), [], (.new [])⟩,
   ⟨(some 11), none, .mv (.t 0), [], (.new [])⟩,
   ⟨(some 12), none, .len (.t 11), [], (.new [])⟩,
   ⟨(some 13), none, .slice sz (.t 8) (some (.t 9)) (some (.t 10)) (some (.t 12)), [], (.lone [11])⟩])
 (.seq (.seq (.reg [⟨(some 14), none, .mv (.t 1), [], (.new [])⟩,
   ⟨(some 15), none, .mv (.t 2), [], (.new [])⟩,
   ⟨(some 16), none, .bin .eql (.t 14) (.t 15), [], (.new [])⟩])
 (.cond (.t 16)
 (.seq (.reg [⟨(some 17), none, .mv (.t 0), [], (.new [])⟩,
   ⟨(some 6), none, .mv (.t 17), [], (.new [])⟩])
 .ret)
 .skip))
 (.seq (.reg [⟨(some 18), none, .mv (.t 0), [], (.new [])⟩,
   ⟨(some 19), none, .len (.t 18), [], (.new [])⟩,
   ⟨(some 7), none, .mv (.t 19), [], (.new [])⟩])
 (.seq (.regd [⟨(some 20), none, .mv (.t 0), [], (.new [])⟩,
   ⟨(some 21), none, .mv (.t 1), [], (.new [])⟩,
   ⟨(some 22), none, .slice sz (.t 20) none (some (.t 21)) none, [0, 1], (.new [])⟩,
   ⟨(some 23), none, .mv (.t 0), [], (.new [])⟩,
   ⟨(some 24), none, .mv (.t 2), [], (.new [])⟩,
   ⟨(some 25), none, .slice sz (.t 23) (some (.t 24)) none none, [3, 4], (.new [])⟩,
   ⟨(some 26), none, .app sz bt (.t 22) (.t 25), [0, 1, 2, 3, 4, 5], (.lone [])⟩,
   ⟨(some 0), none, .mv (.t 26), [0, 1, 2, 3, 4, 5, 6], (.new [])⟩])
 (.seq (.reg [⟨(some 27), none, .mv (.t 0), [], (.new [])⟩,
   ⟨(some 28), none, .mv (.t 0), [], (.new [])⟩,
   ⟨(some 29), none, .len (.t 28), [], (.new [])⟩,
   ⟨(some 30), none, .mv (.t 7), [], (.new [])⟩,
   ⟨(some 31), none, .slice sz (.t 27) (some (.t 29)) (some (.t 30)) none, [], (.new [])⟩,
   ⟨none, none, .clear sz z (.t 31), [], (.new [])⟩])
 (.seq (.reg [⟨(some 32), none, .mv (.t 0), [], (.new [])⟩,
   ⟨(some 6), none, .mv (.t 32), [], (.new [])⟩])
 .ret)))))))⟩

theorem w1 {n : Nat} (h : n ≤ 4294967290) : IntKind.i64.wrap ((n : Int) + 1) = ((n + 1 : Nat) : Int) := wrapN (by omega)
theorem w2 {n i : Nat} (h : n ≤ 4294967290) (hi : i ≤ n) : IntKind.i64.wrap (((n + 1 : Nat) : Int) - i) = ((n + 1 - i : Nat) : Int) := by
  rw [wrapI (by omega) (by omega)]; omega
section
variable {P : Program} {f g rr : FuncId} {sz bt : Nat} {z : List D}
/-- slices.Clone of a frozen list. -/
theorem clone_spec (hf : afn P f = some (cloneA sz bt)) (rows : List (List D)) (hl : rows.length ≤ 4294967296) (hs : RowsSz rows sz) : CallD P f [aL rows] [] (.one (.c (.own 0 1 0 rows.length none))) [some (.arr 1 sz rows)] := by
  refine callS (A := cloneA sz bt) (res := [.c (.own 0 1 0 rows.length none)]) hf (by simp [cloneA]) ?_
  simp only [cloneA, envH_nil, WrOk_nil, WrOk_lone, nb_true, nb_false, nb_dec, apply_some, apply_none, apply_skip, putSlot_some, putSlot_none, setB, argSlots, St.ev, St.evC, St.evV, lk, wrs, allW, ret, retV, evL, capL, intV, bldL, frzL, frzRL, rowsL, app1, wr1, kSt, if_true, if_false, Nat.reduceEqDiff, reduceCtorEq, binK, true_and, and_true, decide_eq_true_eq, decide_eq_false_iff_not, List.length_map, Int.toNat_natCast, ldC, List.map_cons, List.map_nil, List.length_cons, List.length_nil, List.take_succ_cons, List.take_zero, A1.cells, hset, hp, splice, List.getElem?_cons_zero, List.getElem?_cons_succ, Option.join_some, List.drop_succ_cons, List.drop_zero, Nat.zero_add, Nat.reduceAdd, Nat.reduceLeDiff, Nat.reduceLT, List.nil_append, List.cons_append, List.append_nil, List.drop_nil, Nat.le_refl, clipC, eqCells, eqCell, eqB_t, eqB_f, dec_and, and_t, NilK_f, NilK_t, resS, List.isEmpty_iff, cast1, cast0, toNat0, toNat1, s1_mv, sS_mv, s1_pick, sS_pick, s1_box, sS_box, s1_zbox, sS_zbox, s1_build, sS_build, s1_bslice, sS_bslice, s1_load, sS_load, s1_store, sS_store, s1_fieldA, sS_fieldA, s1_field, sS_field, s1_indexA, sS_indexA, s1_sidx, sS_sidx, s1_slice, sS_slice, s1_sslice, sS_sslice, s1_fn, sS_fn, s1_app, sS_app, s1_appz, sS_appz, s1_copy, sS_copy, s1_clear, sS_clear, s1_mk, sS_mk, s1_call, sS_call, s1_callv, sS_callv, s1_ext, sS_ext, s1_len, sS_len, s1_slen, sS_slen, s1_cap, sS_cap, s1_bin, sS_bin, s1_eqnil, s1_not, sS_not, s1_beq, sS_beq, s1_neg, sS_neg, s1_max, sS_max, s1_min, sS_min, s1_mins, sS_mins, minL, s1_conv, sS_conv, s1_istr, sS_istr, s1_eqs, sS_eqs, sS_eqnil, qkOps_eq, qvcOps_nil, qvcOps_none, qvcOps_some, qgOps_11, qgOps_00, qgOps_10, qgOps_01, qkD_nil, qvcD_nil, qvcD_none, qvcD_some, qgD_11, qgD_00, qgD_10, qgD_01, qPickK_1, qPickK_0, qvc_skip, qvc_reg, qvc_regd, qvc_seq, qvc_block, qvc_loop, qvc_sem, qvc_exit, qvc_ret, qvc_cond, qcnd_1, qcnd_0, qnrmK_seq, qnrmK_blk, qnrmK_nil, qunw_exit_seq, qunw_exit_blk, qunw_exit_nil, qunw_ret_seq, qunw_ret_blk, qunw_ret_nil, qloopQ_exit, qloopQ_ret, qE_ret, qE_norm, qkD_lone, skipOut, ap_nil, ap_cons, apS_own, apS_pt, apS_pe, apS_d, apS_fp, apS_fn, wa_nil, wa_cons, Bool.and_true, Bool.true_and, Bool.not_false]
  exact ⟨fun h => by subst h; exact fin_nil 1 sz, hs, hl, fin_id⟩

/-- slices.Insert of one row. -/
theorem insert_spec (hf : afn P f = some (insertA sz bt z g rr)) (hov : ∀ (e0 e1 o0 o1 l0 l1 : Nat) (c0 c1 : Option Nat) (r0 r1 : List (List D)), CallD P g [.c (.own 0 e0 o0 l0 c0), .c (.own 1 e1 o1 l1 c1)] [some (.arr e0 sz r0), some (.arr e1 sz r1)] (.one (aB false)) [some (.arr e0 sz r0), some (.arr e1 sz r1)]) (rows : List (List D)) (x : List D) (i e e' n : Nat) (hn : rows.length = n) (hi : i ≤ n) (hl : n ≤ 4294967290) (hs : RowsSz rows sz) (hx : x.length = sz) :
    CallD P f [.c (.own 0 e 0 n none), aI i, .c (.own 1 e' 0 1 none)] [some (.arr e sz rows), some (.arr e' sz [x])] (.one (.c (.own 0 (e + 1) 0 (n + 1) none))) [some (.arr (e + 1) sz (rows.take i ++ x :: rows.drop i)), some (.arr e' sz [x])] := by
  refine CallD.cap fun c hc => ?_
  refine callS (A := insertA sz bt z g rr) (res := [.c (.own 0 (e + 1) 0 (n + 1) none)]) hf (by simp [insertA]) ?_
  have e1 := w1 hl
  have e2 := w2 hl hi
  have e3 := w1 (n := i) (by omega)
  simp only [insertA, envH_nil, WrOk_nil, WrOk_lone, nb_true, nb_false, nb_dec, apply_some, apply_none, apply_skip, putSlot_some, putSlot_none, setB, argSlots, St.ev, St.evC, St.evV, lk, wrs, allW, ret, retV, evL, capL, intV, bldL, frzL, frzRL, rowsL, app1, wr1, kSt, if_true, if_false, Nat.reduceEqDiff, reduceCtorEq, binK, true_and, and_true, decide_eq_true_eq, decide_eq_false_iff_not, List.length_map, Int.toNat_natCast, ldC, List.map_cons, List.map_nil, List.length_cons, List.length_nil, List.take_succ_cons, List.take_zero, A1.cells, hset, hp, splice, List.getElem?_cons_zero, List.getElem?_cons_succ, Option.join_some, List.drop_succ_cons, List.drop_zero, Nat.zero_add, Nat.reduceAdd, Nat.reduceLeDiff, Nat.reduceLT, List.nil_append, List.cons_append, List.append_nil, List.drop_nil, Nat.le_refl, clipC, eqCells, eqCell, eqB_t, eqB_f, dec_and, and_t, NilK_f, NilK_t, resS, List.isEmpty_iff, cast1, cast0, toNat0, toNat1, s1_mv, sS_mv, s1_pick, sS_pick, s1_box, sS_box, s1_zbox, sS_zbox, s1_build, sS_build, s1_bslice, sS_bslice, s1_load, sS_load, s1_store, sS_store, s1_fieldA, sS_fieldA, s1_field, sS_field, s1_indexA, sS_indexA, s1_sidx, sS_sidx, s1_slice, sS_slice, s1_sslice, sS_sslice, s1_fn, sS_fn, s1_app, sS_app, s1_appz, sS_appz, s1_copy, sS_copy, s1_clear, sS_clear, s1_mk, sS_mk, s1_call, sS_call, s1_callv, sS_callv, s1_ext, sS_ext, s1_len, sS_len, s1_slen, sS_slen, s1_cap, sS_cap, s1_bin, sS_bin, s1_eqnil, s1_not, sS_not, s1_beq, sS_beq, s1_neg, sS_neg, s1_max, sS_max, s1_min, sS_min, s1_mins, sS_mins, minL, s1_conv, sS_conv, s1_istr, sS_istr, s1_eqs, sS_eqs, sS_eqnil, qkOps_eq, qvcOps_nil, qvcOps_none, qvcOps_some, qgOps_11, qgOps_00, qgOps_10, qgOps_01, qkD_nil, qvcD_nil, qvcD_none, qvcD_some, qgD_11, qgD_00, qgD_10, qgD_01, qPickK_1, qPickK_0, qvc_skip, qvc_reg, qvc_regd, qvc_seq, qvc_block, qvc_loop, qvc_sem, qvc_exit, qvc_ret, qvc_cond, qcnd_1, qcnd_0, qnrmK_seq, qnrmK_blk, qnrmK_nil, qunw_exit_seq, qunw_exit_blk, qunw_exit_nil, qunw_ret_seq, qunw_ret_blk, qunw_ret_nil, qloopQ_exit, qloopQ_ret, qE_ret, qE_norm, qkD_lone, skipOut, ap_nil, ap_cons, apS_own, apS_pt, apS_pe, apS_d, apS_fp, apS_fn, wa_nil, wa_cons, Bool.and_true, Bool.true_and, Bool.not_false]
  refine ⟨by omega, condN (by omega) ?_⟩
  simp only [envH_nil, WrOk_nil, WrOk_lone, nb_true, nb_false, nb_dec, apply_some, apply_none, apply_skip, putSlot_some, putSlot_none, setB, argSlots, St.ev, St.evC, St.evV, lk, wrs, allW, ret, retV, evL, capL, intV, bldL, frzL, frzRL, rowsL, app1, wr1, kSt, if_true, if_false, Nat.reduceEqDiff, reduceCtorEq, binK, true_and, and_true, decide_eq_true_eq, decide_eq_false_iff_not, List.length_map, Int.toNat_natCast, ldC, List.map_cons, List.map_nil, List.length_cons, List.length_nil, List.take_succ_cons, List.take_zero, A1.cells, hset, hp, splice, List.getElem?_cons_zero, List.getElem?_cons_succ, Option.join_some, List.drop_succ_cons, List.drop_zero, Nat.zero_add, Nat.reduceAdd, Nat.reduceLeDiff, Nat.reduceLT, List.nil_append, List.cons_append, List.append_nil, List.drop_nil, Nat.le_refl, clipC, eqCells, eqCell, eqB_t, eqB_f, dec_and, and_t, NilK_f, NilK_t, resS, List.isEmpty_iff, cast1, cast0, toNat0, toNat1, s1_mv, sS_mv, s1_pick, sS_pick, s1_box, sS_box, s1_zbox, sS_zbox, s1_build, sS_build, s1_bslice, sS_bslice, s1_load, sS_load, s1_store, sS_store, s1_fieldA, sS_fieldA, s1_field, sS_field, s1_indexA, sS_indexA, s1_sidx, sS_sidx, s1_slice, sS_slice, s1_sslice, sS_sslice, s1_fn, sS_fn, s1_app, sS_app, s1_appz, sS_appz, s1_copy, sS_copy, s1_clear, sS_clear, s1_mk, sS_mk, s1_call, sS_call, s1_callv, sS_callv, s1_ext, sS_ext, s1_len, sS_len, s1_slen, sS_slen, s1_cap, sS_cap, s1_bin, sS_bin, s1_eqnil, s1_not, sS_not, s1_beq, sS_beq, s1_neg, sS_neg, s1_max, sS_max, s1_min, sS_min, s1_mins, sS_mins, minL, s1_conv, sS_conv, s1_istr, sS_istr, s1_eqs, sS_eqs, sS_eqnil, qkOps_eq, qvcOps_nil, qvcOps_none, qvcOps_some, qgOps_11, qgOps_00, qgOps_10, qgOps_01, qkD_nil, qvcD_nil, qvcD_none, qvcD_some, qgD_11, qgD_00, qgD_10, qgD_01, qPickK_1, qPickK_0, qvc_skip, qvc_reg, qvc_regd, qvc_seq, qvc_block, qvc_loop, qvc_sem, qvc_exit, qvc_ret, qvc_cond, qcnd_1, qcnd_0, qnrmK_seq, qnrmK_blk, qnrmK_nil, qunw_exit_seq, qunw_exit_blk, qunw_exit_nil, qunw_ret_seq, qunw_ret_blk, qunw_ret_nil, qloopQ_exit, qloopQ_ret, qE_ret, qE_norm, qkD_lone, skipOut, ap_nil, ap_cons, apS_own, apS_pt, apS_pe, apS_d, apS_fp, apS_fn, wa_nil, wa_cons, Bool.and_true, Bool.true_and, Bool.not_false]
  refine condS (fun hin => ?_) (fun hin => ?_)
  · have hin' : i = n := by omega
    subst hin'
    simp only [envH_nil, WrOk_nil, WrOk_lone, nb_true, nb_false, nb_dec, apply_some, apply_none, apply_skip, putSlot_some, putSlot_none, setB, argSlots, St.ev, St.evC, St.evV, lk, wrs, allW, ret, retV, evL, capL, intV, bldL, frzL, frzRL, rowsL, app1, wr1, kSt, if_true, if_false, Nat.reduceEqDiff, reduceCtorEq, binK, true_and, and_true, decide_eq_true_eq, decide_eq_false_iff_not, List.length_map, Int.toNat_natCast, ldC, List.map_cons, List.map_nil, List.length_cons, List.length_nil, List.take_succ_cons, List.take_zero, A1.cells, hset, hp, splice, List.getElem?_cons_zero, List.getElem?_cons_succ, Option.join_some, List.drop_succ_cons, List.drop_zero, Nat.zero_add, Nat.reduceAdd, Nat.reduceLeDiff, Nat.reduceLT, List.nil_append, List.cons_append, List.append_nil, List.drop_nil, Nat.le_refl, clipC, eqCells, eqCell, eqB_t, eqB_f, dec_and, and_t, NilK_f, NilK_t, resS, List.isEmpty_iff, cast1, cast0, toNat0, toNat1, s1_mv, sS_mv, s1_pick, sS_pick, s1_box, sS_box, s1_zbox, sS_zbox, s1_build, sS_build, s1_bslice, sS_bslice, s1_load, sS_load, s1_store, sS_store, s1_fieldA, sS_fieldA, s1_field, sS_field, s1_indexA, sS_indexA, s1_sidx, sS_sidx, s1_slice, sS_slice, s1_sslice, sS_sslice, s1_fn, sS_fn, s1_app, sS_app, s1_appz, sS_appz, s1_copy, sS_copy, s1_clear, sS_clear, s1_mk, sS_mk, s1_call, sS_call, s1_callv, sS_callv, s1_ext, sS_ext, s1_len, sS_len, s1_slen, sS_slen, s1_cap, sS_cap, s1_bin, sS_bin, s1_eqnil, s1_not, sS_not, s1_beq, sS_beq, s1_neg, sS_neg, s1_max, sS_max, s1_min, sS_min, s1_mins, sS_mins, minL, s1_conv, sS_conv, s1_istr, sS_istr, s1_eqs, sS_eqs, sS_eqnil, qkOps_eq, qvcOps_nil, qvcOps_none, qvcOps_some, qgOps_11, qgOps_00, qgOps_10, qgOps_01, qkD_nil, qvcD_nil, qvcD_none, qvcD_some, qgD_11, qgD_00, qgD_10, qgD_01, qPickK_1, qPickK_0, qvc_skip, qvc_reg, qvc_regd, qvc_seq, qvc_block, qvc_loop, qvc_sem, qvc_exit, qvc_ret, qvc_cond, qcnd_1, qcnd_0, qnrmK_seq, qnrmK_blk, qnrmK_nil, qunw_exit_seq, qunw_exit_blk, qunw_exit_nil, qunw_ret_seq, qunw_ret_blk, qunw_ret_nil, qloopQ_exit, qloopQ_ret, qE_ret, qE_norm, qkD_lone, skipOut, ap_nil, ap_cons, apS_own, apS_pt, apS_pe, apS_d, apS_fp, apS_fn, wa_nil, wa_cons, Bool.and_true, Bool.true_and, Bool.not_false]
    refine ⟨by omega, ?_⟩
    by_cases hcc : i + 1 ≤ c
    · refine .inl ⟨by simpa using hcc, ?_⟩
      simp only [envH_nil, WrOk_nil, WrOk_lone, nb_true, nb_false, nb_dec, apply_some, apply_none, apply_skip, putSlot_some, putSlot_none, setB, argSlots, St.ev, St.evC, St.evV, lk, wrs, allW, ret, retV, evL, capL, intV, bldL, frzL, frzRL, rowsL, app1, wr1, kSt, if_true, if_false, Nat.reduceEqDiff, reduceCtorEq, binK, true_and, and_true, decide_eq_true_eq, decide_eq_false_iff_not, List.length_map, Int.toNat_natCast, ldC, List.map_cons, List.map_nil, List.length_cons, List.length_nil, List.take_succ_cons, List.take_zero, A1.cells, hset, hp, splice, List.getElem?_cons_zero, List.getElem?_cons_succ, Option.join_some, List.drop_succ_cons, List.drop_zero, Nat.zero_add, Nat.reduceAdd, Nat.reduceLeDiff, Nat.reduceLT, List.nil_append, List.cons_append, List.append_nil, List.drop_nil, Nat.le_refl, clipC, eqCells, eqCell, eqB_t, eqB_f, dec_and, and_t, NilK_f, NilK_t, resS, List.isEmpty_iff, cast1, cast0, toNat0, toNat1, s1_mv, sS_mv, s1_pick, sS_pick, s1_box, sS_box, s1_zbox, sS_zbox, s1_build, sS_build, s1_bslice, sS_bslice, s1_load, sS_load, s1_store, sS_store, s1_fieldA, sS_fieldA, s1_field, sS_field, s1_indexA, sS_indexA, s1_sidx, sS_sidx, s1_slice, sS_slice, s1_sslice, sS_sslice, s1_fn, sS_fn, s1_app, sS_app, s1_appz, sS_appz, s1_copy, sS_copy, s1_clear, sS_clear, s1_mk, sS_mk, s1_call, sS_call, s1_callv, sS_callv, s1_ext, sS_ext, s1_len, sS_len, s1_slen, sS_slen, s1_cap, sS_cap, s1_bin, sS_bin, s1_eqnil, s1_not, sS_not, s1_beq, sS_beq, s1_neg, sS_neg, s1_max, sS_max, s1_min, sS_min, s1_mins, sS_mins, minL, s1_conv, sS_conv, s1_istr, sS_istr, s1_eqs, sS_eqs, sS_eqnil, qkOps_eq, qvcOps_nil, qvcOps_none, qvcOps_some, qgOps_11, qgOps_00, qgOps_10, qgOps_01, qkD_nil, qvcD_nil, qvcD_none, qvcD_some, qgD_11, qgD_00, qgD_10, qgD_01, qPickK_1, qPickK_0, qvc_skip, qvc_reg, qvc_regd, qvc_seq, qvc_block, qvc_loop, qvc_sem, qvc_exit, qvc_ret, qvc_cond, qcnd_1, qcnd_0, qnrmK_seq, qnrmK_blk, qnrmK_nil, qunw_exit_seq, qunw_exit_blk, qunw_exit_nil, qunw_ret_seq, qunw_ret_blk, qunw_ret_nil, qloopQ_exit, qloopQ_ret, qE_ret, qE_norm, qkD_lone, skipOut, ap_nil, ap_cons, apS_own, apS_pt, apS_pe, apS_d, apS_fp, apS_fn, wa_nil, wa_cons, Bool.and_true, Bool.true_and, Bool.not_false]
      refine fin_re [0, 1] ?_ (by decide) ?_ ?_
      · simp [reBs, reB, hp, hn]
      · simp [keeps, keep1]
      · simp [reAs, reA, reC, hp] <;> omega
    · refine .inr ⟨by simp <;> omega, by simp <;> omega, ?_⟩
      simp only [envH_nil, WrOk_nil, WrOk_lone, nb_true, nb_false, nb_dec, apply_some, apply_none, apply_skip, putSlot_some, putSlot_none, setB, argSlots, St.ev, St.evC, St.evV, lk, wrs, allW, ret, retV, evL, capL, intV, bldL, frzL, frzRL, rowsL, app1, wr1, kSt, if_true, if_false, Nat.reduceEqDiff, reduceCtorEq, binK, true_and, and_true, decide_eq_true_eq, decide_eq_false_iff_not, List.length_map, Int.toNat_natCast, ldC, List.map_cons, List.map_nil, List.length_cons, List.length_nil, List.take_succ_cons, List.take_zero, A1.cells, hset, hp, splice, List.getElem?_cons_zero, List.getElem?_cons_succ, Option.join_some, List.drop_succ_cons, List.drop_zero, Nat.zero_add, Nat.reduceAdd, Nat.reduceLeDiff, Nat.reduceLT, List.nil_append, List.cons_append, List.append_nil, List.drop_nil, Nat.le_refl, clipC, eqCells, eqCell, eqB_t, eqB_f, dec_and, and_t, NilK_f, NilK_t, resS, List.isEmpty_iff, cast1, cast0, toNat0, toNat1, s1_mv, sS_mv, s1_pick, sS_pick, s1_box, sS_box, s1_zbox, sS_zbox, s1_build, sS_build, s1_bslice, sS_bslice, s1_load, sS_load, s1_store, sS_store, s1_fieldA, sS_fieldA, s1_field, sS_field, s1_indexA, sS_indexA, s1_sidx, sS_sidx, s1_slice, sS_slice, s1_sslice, sS_sslice, s1_fn, sS_fn, s1_app, sS_app, s1_appz, sS_appz, s1_copy, sS_copy, s1_clear, sS_clear, s1_mk, sS_mk, s1_call, sS_call, s1_callv, sS_callv, s1_ext, sS_ext, s1_len, sS_len, s1_slen, sS_slen, s1_cap, sS_cap, s1_bin, sS_bin, s1_eqnil, s1_not, sS_not, s1_beq, sS_beq, s1_neg, sS_neg, s1_max, sS_max, s1_min, sS_min, s1_mins, sS_mins, minL, s1_conv, sS_conv, s1_istr, sS_istr, s1_eqs, sS_eqs, sS_eqnil, qkOps_eq, qvcOps_nil, qvcOps_none, qvcOps_some, qgOps_11, qgOps_00, qgOps_10, qgOps_01, qkD_nil, qvcD_nil, qvcD_none, qvcD_some, qgD_11, qgD_00, qgD_10, qgD_01, qPickK_1, qPickK_0, qvc_skip, qvc_reg, qvc_regd, qvc_seq, qvc_block, qvc_loop, qvc_sem, qvc_exit, qvc_ret, qvc_cond, qcnd_1, qcnd_0, qnrmK_seq, qnrmK_blk, qnrmK_nil, qunw_exit_seq, qunw_exit_blk, qunw_exit_nil, qunw_ret_seq, qunw_ret_blk, qunw_ret_nil, qloopQ_exit, qloopQ_ret, qE_ret, qE_norm, qkD_lone, skipOut, ap_nil, ap_cons, apS_own, apS_pt, apS_pe, apS_d, apS_fp, apS_fn, wa_nil, wa_cons, Bool.and_true, Bool.true_and, Bool.not_false]
      refine fin_re [2, 1] ?_ (by decide) ?_ ?_
      · simp [reBs, reB, hp, hn]
      · simp [keeps, keep1]
      · simp [reAs, reA, reC, hp] <;> omega
  · simp only [e1, e2, e3, envH_nil, WrOk_nil, WrOk_lone, nb_true, nb_false, nb_dec, apply_some, apply_none, apply_skip, putSlot_some, putSlot_none, setB, argSlots, St.ev, St.evC, St.evV, lk, wrs, allW, ret, retV, evL, capL, intV, bldL, frzL, frzRL, rowsL, app1, wr1, kSt, if_true, if_false, Nat.reduceEqDiff, reduceCtorEq, binK, true_and, and_true, decide_eq_true_eq, decide_eq_false_iff_not, List.length_map, Int.toNat_natCast, ldC, List.map_cons, List.map_nil, List.length_cons, List.length_nil, List.take_succ_cons, List.take_zero, A1.cells, hset, hp, splice, List.getElem?_cons_zero, List.getElem?_cons_succ, Option.join_some, List.drop_succ_cons, List.drop_zero, Nat.zero_add, Nat.reduceAdd, Nat.reduceLeDiff, Nat.reduceLT, List.nil_append, List.cons_append, List.append_nil, List.drop_nil, Nat.le_refl, clipC, eqCells, eqCell, eqB_t, eqB_f, dec_and, and_t, NilK_f, NilK_t, resS, List.isEmpty_iff, cast1, cast0, toNat0, toNat1, s1_mv, sS_mv, s1_pick, sS_pick, s1_box, sS_box, s1_zbox, sS_zbox, s1_build, sS_build, s1_bslice, sS_bslice, s1_load, sS_load, s1_store, sS_store, s1_fieldA, sS_fieldA, s1_field, sS_field, s1_indexA, sS_indexA, s1_sidx, sS_sidx, s1_slice, sS_slice, s1_sslice, sS_sslice, s1_fn, sS_fn, s1_app, sS_app, s1_appz, sS_appz, s1_copy, sS_copy, s1_clear, sS_clear, s1_mk, sS_mk, s1_call, sS_call, s1_callv, sS_callv, s1_ext, sS_ext, s1_len, sS_len, s1_slen, sS_slen, s1_cap, sS_cap, s1_bin, sS_bin, s1_eqnil, s1_not, sS_not, s1_beq, sS_beq, s1_neg, sS_neg, s1_max, sS_max, s1_min, sS_min, s1_mins, sS_mins, minL, s1_conv, sS_conv, s1_istr, sS_istr, s1_eqs, sS_eqs, sS_eqnil, qkOps_eq, qvcOps_nil, qvcOps_none, qvcOps_some, qgOps_11, qgOps_00, qgOps_10, qgOps_01, qkD_nil, qvcD_nil, qvcD_none, qvcD_some, qgD_11, qgD_00, qgD_10, qgD_01, qPickK_1, qPickK_0, qvc_skip, qvc_reg, qvc_regd, qvc_seq, qvc_block, qvc_loop, qvc_sem, qvc_exit, qvc_ret, qvc_cond, qcnd_1, qcnd_0, qnrmK_seq, qnrmK_blk, qnrmK_nil, qunw_exit_seq, qunw_exit_blk, qunw_exit_nil, qunw_ret_seq, qunw_ret_blk, qunw_ret_nil, qloopQ_exit, qloopQ_ret, qE_ret, qE_norm, qkD_lone, skipOut, ap_nil, ap_cons, apS_own, apS_pt, apS_pe, apS_d, apS_fp, apS_fn, wa_nil, wa_cons, Bool.and_true, Bool.true_and, Bool.not_false]
    have m1 : i + (n + 1 - i) = n + 1 := by omega
    have m2 : min 1 (n + 1 - i) = 1 := by omega
    have m3 : min 1 (n - i) = 1 := by omega
    have m4 : n + 1 - (i + 1) = n - i := by omega
    have m5 : min (n - i) (n - i) = n - i := by omega
    have m6 : (rows.drop i).length = n - i := by simp [hn]
    have m7 : (rows.drop i).take (n - i) = rows.drop i := List.take_of_length_le (by omega)
    have m8 : (rows.take i).length = i := by simp; omega
    have m9 : ∀ z : List D, (rows.take i ++ List.replicate (n + 1 - i) z).take i = rows.take i := fun z => by
      rw [List.take_append_of_le_length (by omega), List.take_take, Nat.min_self]
    have m10 : ∀ z : List D, (rows.take i ++ List.replicate (n + 1 - i) z).drop (i + 1) = List.replicate (n - i) z := fun z => by
      rw [List.drop_append, m8, List.drop_of_length_le (by omega)]; simp; omega
    have m11 : ∀ z : List D, (rows.take i ++ [x] ++ List.replicate (n - i) z).take (i + 1) = rows.take i ++ [x] := fun z => by
      rw [List.take_append_of_le_length (by simp; omega), List.take_of_length_le (by simp; omega)]
    have m12 : ∀ z : List D, (rows.take i ++ [x] ++ List.replicate (n - i) z).drop (i + 1 + (n - i)) = [] := fun z => List.drop_of_length_le (by simp; omega)
    refine condS (fun hcap => ?_) (fun hcap => ?_)
    · simp only [e1, e2, e3, Nat.sub_zero, envH_nil, WrOk_nil, WrOk_lone, nb_true, nb_false, nb_dec, apply_some, apply_none, apply_skip, putSlot_some, putSlot_none, setB, argSlots, St.ev, St.evC, St.evV, lk, wrs, allW, ret, retV, evL, capL, intV, bldL, frzL, frzRL, rowsL, app1, wr1, kSt, if_true, if_false, Nat.reduceEqDiff, reduceCtorEq, binK, true_and, and_true, decide_eq_true_eq, decide_eq_false_iff_not, List.length_map, Int.toNat_natCast, ldC, List.map_cons, List.map_nil, List.length_cons, List.length_nil, List.take_succ_cons, List.take_zero, A1.cells, hset, hp, splice, List.getElem?_cons_zero, List.getElem?_cons_succ, Option.join_some, List.drop_succ_cons, List.drop_zero, Nat.zero_add, Nat.reduceAdd, Nat.reduceLeDiff, Nat.reduceLT, List.nil_append, List.cons_append, List.append_nil, List.drop_nil, Nat.le_refl, clipC, eqCells, eqCell, eqB_t, eqB_f, dec_and, and_t, NilK_f, NilK_t, resS, List.isEmpty_iff, cast1, cast0, toNat0, toNat1, s1_mv, sS_mv, s1_pick, sS_pick, s1_box, sS_box, s1_zbox, sS_zbox, s1_build, sS_build, s1_bslice, sS_bslice, s1_load, sS_load, s1_store, sS_store, s1_fieldA, sS_fieldA, s1_field, sS_field, s1_indexA, sS_indexA, s1_sidx, sS_sidx, s1_slice, sS_slice, s1_sslice, sS_sslice, s1_fn, sS_fn, s1_app, sS_app, s1_appz, sS_appz, s1_copy, sS_copy, s1_clear, sS_clear, s1_mk, sS_mk, s1_call, sS_call, s1_callv, sS_callv, s1_ext, sS_ext, s1_len, sS_len, s1_slen, sS_slen, s1_cap, sS_cap, s1_bin, sS_bin, s1_eqnil, s1_not, sS_not, s1_beq, sS_beq, s1_neg, sS_neg, s1_max, sS_max, s1_min, sS_min, s1_mins, sS_mins, minL, s1_conv, sS_conv, s1_istr, sS_istr, s1_eqs, sS_eqs, sS_eqnil, qkOps_eq, qvcOps_nil, qvcOps_none, qvcOps_some, qgOps_11, qgOps_00, qgOps_10, qgOps_01, qkD_nil, qvcD_nil, qvcD_none, qvcD_some, qgD_11, qgD_00, qgD_10, qgD_01, qPickK_1, qPickK_0, qvc_skip, qvc_reg, qvc_regd, qvc_seq, qvc_block, qvc_loop, qvc_sem, qvc_exit, qvc_ret, qvc_cond, qcnd_1, qcnd_0, qnrmK_seq, qnrmK_blk, qnrmK_nil, qunw_exit_seq, qunw_exit_blk, qunw_exit_nil, qunw_ret_seq, qunw_ret_blk, qunw_ret_nil, qloopQ_exit, qloopQ_ret, qE_ret, qE_norm, qkD_lone, skipOut, ap_nil, ap_cons, apS_own, apS_pt, apS_pe, apS_d, apS_fp, apS_fn, wa_nil, wa_cons, Bool.and_true, Bool.true_and, Bool.not_false]
      refine ⟨by omega, by omega, by omega, .inr ⟨by simp <;> omega, by simp <;> omega, ?_⟩⟩
      simp only [e1, e2, e3, Nat.sub_zero, List.length_replicate, m1, m2, m4, m5, m8, m9, m10, Nat.add_sub_cancel_left, envH_nil, WrOk_nil, WrOk_lone, nb_true, nb_false, nb_dec, apply_some, apply_none, apply_skip, putSlot_some, putSlot_none, setB, argSlots, St.ev, St.evC, St.evV, lk, wrs, allW, ret, retV, evL, capL, intV, bldL, frzL, frzRL, rowsL, app1, wr1, kSt, if_true, if_false, Nat.reduceEqDiff, reduceCtorEq, binK, true_and, and_true, decide_eq_true_eq, decide_eq_false_iff_not, List.length_map, Int.toNat_natCast, ldC, List.map_cons, List.map_nil, List.length_cons, List.length_nil, List.take_succ_cons, List.take_zero, A1.cells, hset, hp, splice, List.getElem?_cons_zero, List.getElem?_cons_succ, Option.join_some, List.drop_succ_cons, List.drop_zero, Nat.zero_add, Nat.reduceAdd, Nat.reduceLeDiff, Nat.reduceLT, List.nil_append, List.cons_append, List.append_nil, List.drop_nil, Nat.le_refl, clipC, eqCells, eqCell, eqB_t, eqB_f, dec_and, and_t, NilK_f, NilK_t, resS, List.isEmpty_iff, cast1, cast0, toNat0, toNat1, s1_mv, sS_mv, s1_pick, sS_pick, s1_box, sS_box, s1_zbox, sS_zbox, s1_build, sS_build, s1_bslice, sS_bslice, s1_load, sS_load, s1_store, sS_store, s1_fieldA, sS_fieldA, s1_field, sS_field, s1_indexA, sS_indexA, s1_sidx, sS_sidx, s1_slice, sS_slice, s1_sslice, sS_sslice, s1_fn, sS_fn, s1_app, sS_app, s1_appz, sS_appz, s1_copy, sS_copy, s1_clear, sS_clear, s1_mk, sS_mk, s1_call, sS_call, s1_callv, sS_callv, s1_ext, sS_ext, s1_len, sS_len, s1_slen, sS_slen, s1_cap, sS_cap, s1_bin, sS_bin, s1_eqnil, s1_not, sS_not, s1_beq, sS_beq, s1_neg, sS_neg, s1_max, sS_max, s1_min, sS_min, s1_mins, sS_mins, minL, s1_conv, sS_conv, s1_istr, sS_istr, s1_eqs, sS_eqs, sS_eqnil, qkOps_eq, qvcOps_nil, qvcOps_none, qvcOps_some, qgOps_11, qgOps_00, qgOps_10, qgOps_01, qkD_nil, qvcD_nil, qvcD_none, qvcD_some, qgD_11, qgD_00, qgD_10, qgD_01, qPickK_1, qPickK_0, qvc_skip, qvc_reg, qvc_regd, qvc_seq, qvc_block, qvc_loop, qvc_sem, qvc_exit, qvc_ret, qvc_cond, qcnd_1, qcnd_0, qnrmK_seq, qnrmK_blk, qnrmK_nil, qunw_exit_seq, qunw_exit_blk, qunw_exit_nil, qunw_ret_seq, qunw_ret_blk, qunw_ret_nil, qloopQ_exit, qloopQ_ret, qE_ret, qE_norm, qkD_lone, skipOut, ap_nil, ap_cons, apS_own, apS_pt, apS_pe, apS_d, apS_fp, apS_fn, wa_nil, wa_cons, Bool.and_true, Bool.true_and, Bool.not_false]
      refine ⟨by omega, by rw [List.length_append, List.length_replicate]; omega, ?_⟩
      simp only [e1, e2, e3, Nat.sub_zero, List.length_replicate, m1, m2, m4, m5, m6, m7, m8, m9, m10, m11, m12, Nat.add_sub_cancel_left, Nat.min_self, envH_nil, WrOk_nil, WrOk_lone, nb_true, nb_false, nb_dec, apply_some, apply_none, apply_skip, putSlot_some, putSlot_none, setB, argSlots, St.ev, St.evC, St.evV, lk, wrs, allW, ret, retV, evL, capL, intV, bldL, frzL, frzRL, rowsL, app1, wr1, kSt, if_true, if_false, Nat.reduceEqDiff, reduceCtorEq, binK, true_and, and_true, decide_eq_true_eq, decide_eq_false_iff_not, List.length_map, Int.toNat_natCast, ldC, List.map_cons, List.map_nil, List.length_cons, List.length_nil, List.take_succ_cons, List.take_zero, A1.cells, hset, hp, splice, List.getElem?_cons_zero, List.getElem?_cons_succ, Option.join_some, List.drop_succ_cons, List.drop_zero, Nat.zero_add, Nat.reduceAdd, Nat.reduceLeDiff, Nat.reduceLT, List.nil_append, List.cons_append, List.append_nil, List.drop_nil, Nat.le_refl, clipC, eqCells, eqCell, eqB_t, eqB_f, dec_and, and_t, NilK_f, NilK_t, resS, List.isEmpty_iff, cast1, cast0, toNat0, toNat1, s1_mv, sS_mv, s1_pick, sS_pick, s1_box, sS_box, s1_zbox, sS_zbox, s1_build, sS_build, s1_bslice, sS_bslice, s1_load, sS_load, s1_store, sS_store, s1_fieldA, sS_fieldA, s1_field, sS_field, s1_indexA, sS_indexA, s1_sidx, sS_sidx, s1_slice, sS_slice, s1_sslice, sS_sslice, s1_fn, sS_fn, s1_app, sS_app, s1_appz, sS_appz, s1_copy, sS_copy, s1_clear, sS_clear, s1_mk, sS_mk, s1_call, sS_call, s1_callv, sS_callv, s1_ext, sS_ext, s1_len, sS_len, s1_slen, sS_slen, s1_cap, sS_cap, s1_bin, sS_bin, s1_eqnil, s1_not, sS_not, s1_beq, sS_beq, s1_neg, sS_neg, s1_max, sS_max, s1_min, sS_min, s1_mins, sS_mins, minL, s1_conv, sS_conv, s1_istr, sS_istr, s1_eqs, sS_eqs, sS_eqnil, qkOps_eq, qvcOps_nil, qvcOps_none, qvcOps_some, qgOps_11, qgOps_00, qgOps_10, qgOps_01, qkD_nil, qvcD_nil, qvcD_none, qvcD_some, qgD_11, qgD_00, qgD_10, qgD_01, qPickK_1, qPickK_0, qvc_skip, qvc_reg, qvc_regd, qvc_seq, qvc_block, qvc_loop, qvc_sem, qvc_exit, qvc_ret, qvc_cond, qcnd_1, qcnd_0, qnrmK_seq, qnrmK_blk, qnrmK_nil, qunw_exit_seq, qunw_exit_blk, qunw_exit_nil, qunw_ret_seq, qunw_ret_blk, qunw_ret_nil, qloopQ_exit, qloopQ_ret, qE_ret, qE_norm, qkD_lone, skipOut, ap_nil, ap_cons, apS_own, apS_pt, apS_pe, apS_d, apS_fp, apS_fn, wa_nil, wa_cons, Bool.and_true, Bool.true_and, Bool.not_false]
      refine ⟨by omega, by omega, by omega, by rw [List.length_append, List.length_append, List.length_replicate]; simp; omega, ?_⟩
      refine fin_re [2, 1] ?_ (by decide) ?_ ?_
      · simp [reBs, reB, hp]
      · simp [keeps, keep1]
      · simp [reAs, reA, reC, hp] <;> omega
    · simp only [e1, e2, e3, Nat.sub_zero, Nat.add_sub_cancel_left, envH_nil, WrOk_nil, WrOk_lone, nb_true, nb_false, nb_dec, apply_some, apply_none, apply_skip, putSlot_some, putSlot_none, setB, argSlots, St.ev, St.evC, St.evV, lk, wrs, allW, ret, retV, evL, capL, intV, bldL, frzL, frzRL, rowsL, app1, wr1, kSt, if_true, if_false, Nat.reduceEqDiff, reduceCtorEq, binK, true_and, and_true, decide_eq_true_eq, decide_eq_false_iff_not, List.length_map, Int.toNat_natCast, ldC, List.map_cons, List.map_nil, List.length_cons, List.length_nil, List.take_succ_cons, List.take_zero, A1.cells, hset, hp, splice, List.getElem?_cons_zero, List.getElem?_cons_succ, Option.join_some, List.drop_succ_cons, List.drop_zero, Nat.zero_add, Nat.reduceAdd, Nat.reduceLeDiff, Nat.reduceLT, List.nil_append, List.cons_append, List.append_nil, List.drop_nil, Nat.le_refl, clipC, eqCells, eqCell, eqB_t, eqB_f, dec_and, and_t, NilK_f, NilK_t, resS, List.isEmpty_iff, cast1, cast0, toNat0, toNat1, s1_mv, sS_mv, s1_pick, sS_pick, s1_box, sS_box, s1_zbox, sS_zbox, s1_build, sS_build, s1_bslice, sS_bslice, s1_load, sS_load, s1_store, sS_store, s1_fieldA, sS_fieldA, s1_field, sS_field, s1_indexA, sS_indexA, s1_sidx, sS_sidx, s1_slice, sS_slice, s1_sslice, sS_sslice, s1_fn, sS_fn, s1_app, sS_app, s1_appz, sS_appz, s1_copy, sS_copy, s1_clear, sS_clear, s1_mk, sS_mk, s1_call, sS_call, s1_callv, sS_callv, s1_ext, sS_ext, s1_len, sS_len, s1_slen, sS_slen, s1_cap, sS_cap, s1_bin, sS_bin, s1_eqnil, s1_not, sS_not, s1_beq, sS_beq, s1_neg, sS_neg, s1_max, sS_max, s1_min, sS_min, s1_mins, sS_mins, minL, s1_conv, sS_conv, s1_istr, sS_istr, s1_eqs, sS_eqs, sS_eqnil, qkOps_eq, qvcOps_nil, qvcOps_none, qvcOps_some, qgOps_11, qgOps_00, qgOps_10, qgOps_01, qkD_nil, qvcD_nil, qvcD_none, qvcD_some, qgD_11, qgD_00, qgD_10, qgD_01, qPickK_1, qPickK_0, qvc_skip, qvc_reg, qvc_regd, qvc_seq, qvc_block, qvc_loop, qvc_sem, qvc_exit, qvc_ret, qvc_cond, qcnd_1, qcnd_0, qnrmK_seq, qnrmK_blk, qnrmK_nil, qunw_exit_seq, qunw_exit_blk, qunw_exit_nil, qunw_ret_seq, qunw_ret_blk, qunw_ret_nil, qloopQ_exit, qloopQ_ret, qE_ret, qE_norm, qkD_lone, skipOut, ap_nil, ap_cons, apS_own, apS_pt, apS_pe, apS_d, apS_fp, apS_fn, wa_nil, wa_cons, Bool.and_true, Bool.true_and, Bool.not_false]
      refine ⟨by omega, by omega, ?_⟩
      refine callX_arr [1, 0] (hov e' e 0 (i + 1) 1 _ none _ [x] rows) rfl ?_ ?_ (by decide) ?_
      · simp [A1.live, C.live, hp]
      · simp [inA, hp, Blk.easy]
      simp only [tailWr, Blk.ren, rn, AV.ren, A1.ren, C.ren, e1, e2, e3, Nat.sub_zero, envH_nil, WrOk_nil, WrOk_lone, nb_true, nb_false, nb_dec, apply_some, apply_none, apply_skip, putSlot_some, putSlot_none, setB, argSlots, St.ev, St.evC, St.evV, lk, wrs, allW, ret, retV, evL, capL, intV, bldL, frzL, frzRL, rowsL, app1, wr1, kSt, if_true, if_false, Nat.reduceEqDiff, reduceCtorEq, binK, true_and, and_true, decide_eq_true_eq, decide_eq_false_iff_not, List.length_map, Int.toNat_natCast, ldC, List.map_cons, List.map_nil, List.length_cons, List.length_nil, List.take_succ_cons, List.take_zero, A1.cells, hset, hp, splice, List.getElem?_cons_zero, List.getElem?_cons_succ, Option.join_some, List.drop_succ_cons, List.drop_zero, Nat.zero_add, Nat.reduceAdd, Nat.reduceLeDiff, Nat.reduceLT, List.nil_append, List.cons_append, List.append_nil, List.drop_nil, Nat.le_refl, clipC, eqCells, eqCell, eqB_t, eqB_f, dec_and, and_t, NilK_f, NilK_t, resS, List.isEmpty_iff, cast1, cast0, toNat0, toNat1, s1_mv, sS_mv, s1_pick, sS_pick, s1_box, sS_box, s1_zbox, sS_zbox, s1_build, sS_build, s1_bslice, sS_bslice, s1_load, sS_load, s1_store, sS_store, s1_fieldA, sS_fieldA, s1_field, sS_field, s1_indexA, sS_indexA, s1_sidx, sS_sidx, s1_slice, sS_slice, s1_sslice, sS_sslice, s1_fn, sS_fn, s1_app, sS_app, s1_appz, sS_appz, s1_copy, sS_copy, s1_clear, sS_clear, s1_mk, sS_mk, s1_call, sS_call, s1_callv, sS_callv, s1_ext, sS_ext, s1_len, sS_len, s1_slen, sS_slen, s1_cap, sS_cap, s1_bin, sS_bin, s1_eqnil, s1_not, sS_not, s1_beq, sS_beq, s1_neg, sS_neg, s1_max, sS_max, s1_min, sS_min, s1_mins, sS_mins, minL, s1_conv, sS_conv, s1_istr, sS_istr, s1_eqs, sS_eqs, sS_eqnil, qkOps_eq, qvcOps_nil, qvcOps_none, qvcOps_some, qgOps_11, qgOps_00, qgOps_10, qgOps_01, qkD_nil, qvcD_nil, qvcD_none, qvcD_some, qgD_11, qgD_00, qgD_10, qgD_01, qPickK_1, qPickK_0, qvc_skip, qvc_reg, qvc_regd, qvc_seq, qvc_block, qvc_loop, qvc_sem, qvc_exit, qvc_ret, qvc_cond, qcnd_1, qcnd_0, qnrmK_seq, qnrmK_blk, qnrmK_nil, qunw_exit_seq, qunw_exit_blk, qunw_exit_nil, qunw_ret_seq, qunw_ret_blk, qunw_ret_nil, qloopQ_exit, qloopQ_ret, qE_ret, qE_norm, qkD_lone, skipOut, ap_nil, ap_cons, apS_own, apS_pt, apS_pe, apS_d, apS_fp, apS_fn, wa_nil, wa_cons, Bool.and_true, Bool.true_and, Bool.not_false]
      refine ⟨by omega, by omega, by omega, by omega, by omega, by omega, ?_, ?_⟩
      · simp; omega
      · have m13 : min (n + 1 - i) (n - i) = n - i := by omega
        have m14 : rows.drop (i + 1 + (n - i)) = [] := List.drop_of_length_le (by omega)
        have m17 : (rows.take (i + 1)).length = i + 1 := by simp; omega
        have m15 : (rows.take (i + 1) ++ rows.drop i).take i = rows.take i := by
          rw [List.take_append_of_le_length (by omega), List.take_take]; congr 1; omega
        have m16 : (rows.take (i + 1) ++ rows.drop i).drop (i + 1) = rows.drop i := by
          rw [List.drop_append, m17, List.drop_of_length_le (by omega)]; simp
        simp only [m2, m4, m13, m7, m6, m5, m14, m15, m16, List.append_nil, List.take_succ_cons, List.take_zero, List.length_cons, List.length_nil, Nat.zero_add]
        refine fin_re [0, 1] ?_ (by decide) ?_ ?_
        · simp [reBs, reB, hp]
        · simp [keeps, keep1]
        · simp [reAs, reA, reC, hp] <;> omega

/-- slices.Delete. -/
theorem delete_spec (hf : afn P f = some (deleteA sz bt z)) (rows : List (List D)) (i j e n : Nat) (hn : rows.length = n) (hij : i ≤ j) (hj : j ≤ n) (hl : n ≤ 4294967290) (hs : RowsSz rows sz) :
    CallD P f [.c (.own 0 e 0 n none), aI i, aI j] [some (.arr e sz rows)] (.one (.c (.own 0 (e + 1) 0 (n - (j - i)) none))) [some (.arr (e + 1) sz (rows.take i ++ rows.drop j))] := by
  refine CallD.cap fun c hc => ?_
  refine callS (A := deleteA sz bt z) (res := [.c (.own 0 (e + 1) 0 (n - (j - i)) none)]) hf (by simp [deleteA]) ?_
  simp only [deleteA, Nat.sub_zero, envH_nil, WrOk_nil, WrOk_lone, nb_true, nb_false, nb_dec, apply_some, apply_none, apply_skip, putSlot_some, putSlot_none, setB, argSlots, St.ev, St.evC, St.evV, lk, wrs, allW, ret, retV, evL, capL, intV, bldL, frzL, frzRL, rowsL, app1, wr1, kSt, if_true, if_false, Nat.reduceEqDiff, reduceCtorEq, binK, true_and, and_true, decide_eq_true_eq, decide_eq_false_iff_not, List.length_map, Int.toNat_natCast, ldC, List.map_cons, List.map_nil, List.length_cons, List.length_nil, List.take_succ_cons, List.take_zero, A1.cells, hset, hp, splice, List.getElem?_cons_zero, List.getElem?_cons_succ, Option.join_some, List.drop_succ_cons, List.drop_zero, Nat.zero_add, Nat.reduceAdd, Nat.reduceLeDiff, Nat.reduceLT, List.nil_append, List.cons_append, List.append_nil, List.drop_nil, Nat.le_refl, clipC, eqCells, eqCell, eqB_t, eqB_f, dec_and, and_t, NilK_f, NilK_t, resS, List.isEmpty_iff, cast1, cast0, toNat0, toNat1, s1_mv, sS_mv, s1_pick, sS_pick, s1_box, sS_box, s1_zbox, sS_zbox, s1_build, sS_build, s1_bslice, sS_bslice, s1_load, sS_load, s1_store, sS_store, s1_fieldA, sS_fieldA, s1_field, sS_field, s1_indexA, sS_indexA, s1_sidx, sS_sidx, s1_slice, sS_slice, s1_sslice, sS_sslice, s1_fn, sS_fn, s1_app, sS_app, s1_appz, sS_appz, s1_copy, sS_copy, s1_clear, sS_clear, s1_mk, sS_mk, s1_call, sS_call, s1_callv, sS_callv, s1_ext, sS_ext, s1_len, sS_len, s1_slen, sS_slen, s1_cap, sS_cap, s1_bin, sS_bin, s1_eqnil, s1_not, sS_not, s1_beq, sS_beq, s1_neg, sS_neg, s1_max, sS_max, s1_min, sS_min, s1_mins, sS_mins, minL, s1_conv, sS_conv, s1_istr, sS_istr, s1_eqs, sS_eqs, sS_eqnil, qkOps_eq, qvcOps_nil, qvcOps_none, qvcOps_some, qgOps_11, qgOps_00, qgOps_10, qgOps_01, qkD_nil, qvcD_nil, qvcD_none, qvcD_some, qgD_11, qgD_00, qgD_10, qgD_01, qPickK_1, qPickK_0, qvc_skip, qvc_reg, qvc_regd, qvc_seq, qvc_block, qvc_loop, qvc_sem, qvc_exit, qvc_ret, qvc_cond, qcnd_1, qcnd_0, qnrmK_seq, qnrmK_blk, qnrmK_nil, qunw_exit_seq, qunw_exit_blk, qunw_exit_nil, qunw_ret_seq, qunw_ret_blk, qunw_ret_nil, qloopQ_exit, qloopQ_ret, qE_ret, qE_norm, qkD_lone, skipOut, ap_nil, ap_cons, apS_own, apS_pt, apS_pe, apS_d, apS_fp, apS_fn, wa_nil, wa_cons, Bool.and_true, Bool.true_and, Bool.not_false]
  refine ⟨by omega, ?_⟩
  refine condS (fun hin => ?_) (fun hin => ?_)
  · have hij' : i = j := by omega
    subst hij'
    simp only [envH_nil, WrOk_nil, WrOk_lone, nb_true, nb_false, nb_dec, apply_some, apply_none, apply_skip, putSlot_some, putSlot_none, setB, argSlots, St.ev, St.evC, St.evV, lk, wrs, allW, ret, retV, evL, capL, intV, bldL, frzL, frzRL, rowsL, app1, wr1, kSt, if_true, if_false, Nat.reduceEqDiff, reduceCtorEq, binK, true_and, and_true, decide_eq_true_eq, decide_eq_false_iff_not, List.length_map, Int.toNat_natCast, ldC, List.map_cons, List.map_nil, List.length_cons, List.length_nil, List.take_succ_cons, List.take_zero, A1.cells, hset, hp, splice, List.getElem?_cons_zero, List.getElem?_cons_succ, Option.join_some, List.drop_succ_cons, List.drop_zero, Nat.zero_add, Nat.reduceAdd, Nat.reduceLeDiff, Nat.reduceLT, List.nil_append, List.cons_append, List.append_nil, List.drop_nil, Nat.le_refl, clipC, eqCells, eqCell, eqB_t, eqB_f, dec_and, and_t, NilK_f, NilK_t, resS, List.isEmpty_iff, cast1, cast0, toNat0, toNat1, s1_mv, sS_mv, s1_pick, sS_pick, s1_box, sS_box, s1_zbox, sS_zbox, s1_build, sS_build, s1_bslice, sS_bslice, s1_load, sS_load, s1_store, sS_store, s1_fieldA, sS_fieldA, s1_field, sS_field, s1_indexA, sS_indexA, s1_sidx, sS_sidx, s1_slice, sS_slice, s1_sslice, sS_sslice, s1_fn, sS_fn, s1_app, sS_app, s1_appz, sS_appz, s1_copy, sS_copy, s1_clear, sS_clear, s1_mk, sS_mk, s1_call, sS_call, s1_callv, sS_callv, s1_ext, sS_ext, s1_len, sS_len, s1_slen, sS_slen, s1_cap, sS_cap, s1_bin, sS_bin, s1_eqnil, s1_not, sS_not, s1_beq, sS_beq, s1_neg, sS_neg, s1_max, sS_max, s1_min, sS_min, s1_mins, sS_mins, minL, s1_conv, sS_conv, s1_istr, sS_istr, s1_eqs, sS_eqs, sS_eqnil, qkOps_eq, qvcOps_nil, qvcOps_none, qvcOps_some, qgOps_11, qgOps_00, qgOps_10, qgOps_01, qkD_nil, qvcD_nil, qvcD_none, qvcD_some, qgD_11, qgD_00, qgD_10, qgD_01, qPickK_1, qPickK_0, qvc_skip, qvc_reg, qvc_regd, qvc_seq, qvc_block, qvc_loop, qvc_sem, qvc_exit, qvc_ret, qvc_cond, qcnd_1, qcnd_0, qnrmK_seq, qnrmK_blk, qnrmK_nil, qunw_exit_seq, qunw_exit_blk, qunw_exit_nil, qunw_ret_seq, qunw_ret_blk, qunw_ret_nil, qloopQ_exit, qloopQ_ret, qE_ret, qE_norm, qkD_lone, skipOut, ap_nil, ap_cons, apS_own, apS_pt, apS_pe, apS_d, apS_fp, apS_fn, wa_nil, wa_cons, Bool.and_true, Bool.true_and, Bool.not_false]
    refine fin_re [0] ?_ (by decide) ?_ ?_
    · simp [reBs, reB, hp]
    · simp [keeps, keep1]
    · simp [reAs, reA, reC, hp] <;> omega
  · have m7 : (rows.drop j).take (n - j) = rows.drop j := List.take_of_length_le (by simp; omega)
    have m6 : (rows.drop j).length = n - j := by simp [hn]
    have m8 : (rows.take i).length = i := by simp; omega
    simp only [Nat.sub_zero, m7, m6, envH_nil, WrOk_nil, WrOk_lone, nb_true, nb_false, nb_dec, apply_some, apply_none, apply_skip, putSlot_some, putSlot_none, setB, argSlots, St.ev, St.evC, St.evV, lk, wrs, allW, ret, retV, evL, capL, intV, bldL, frzL, frzRL, rowsL, app1, wr1, kSt, if_true, if_false, Nat.reduceEqDiff, reduceCtorEq, binK, true_and, and_true, decide_eq_true_eq, decide_eq_false_iff_not, List.length_map, Int.toNat_natCast, ldC, List.map_cons, List.map_nil, List.length_cons, List.length_nil, List.take_succ_cons, List.take_zero, A1.cells, hset, hp, splice, List.getElem?_cons_zero, List.getElem?_cons_succ, Option.join_some, List.drop_succ_cons, List.drop_zero, Nat.zero_add, Nat.reduceAdd, Nat.reduceLeDiff, Nat.reduceLT, List.nil_append, List.cons_append, List.append_nil, List.drop_nil, Nat.le_refl, clipC, eqCells, eqCell, eqB_t, eqB_f, dec_and, and_t, NilK_f, NilK_t, resS, List.isEmpty_iff, cast1, cast0, toNat0, toNat1, s1_mv, sS_mv, s1_pick, sS_pick, s1_box, sS_box, s1_zbox, sS_zbox, s1_build, sS_build, s1_bslice, sS_bslice, s1_load, sS_load, s1_store, sS_store, s1_fieldA, sS_fieldA, s1_field, sS_field, s1_indexA, sS_indexA, s1_sidx, sS_sidx, s1_slice, sS_slice, s1_sslice, sS_sslice, s1_fn, sS_fn, s1_app, sS_app, s1_appz, sS_appz, s1_copy, sS_copy, s1_clear, sS_clear, s1_mk, sS_mk, s1_call, sS_call, s1_callv, sS_callv, s1_ext, sS_ext, s1_len, sS_len, s1_slen, sS_slen, s1_cap, sS_cap, s1_bin, sS_bin, s1_eqnil, s1_not, sS_not, s1_beq, sS_beq, s1_neg, sS_neg, s1_max, sS_max, s1_min, sS_min, s1_mins, sS_mins, minL, s1_conv, sS_conv, s1_istr, sS_istr, s1_eqs, sS_eqs, sS_eqnil, qkOps_eq, qvcOps_nil, qvcOps_none, qvcOps_some, qgOps_11, qgOps_00, qgOps_10, qgOps_01, qkD_nil, qvcD_nil, qvcD_none, qvcD_some, qgD_11, qgD_00, qgD_10, qgD_01, qPickK_1, qPickK_0, qvc_skip, qvc_reg, qvc_regd, qvc_seq, qvc_block, qvc_loop, qvc_sem, qvc_exit, qvc_ret, qvc_cond, qcnd_1, qcnd_0, qnrmK_seq, qnrmK_blk, qnrmK_nil, qunw_exit_seq, qunw_exit_blk, qunw_exit_nil, qunw_ret_seq, qunw_ret_blk, qunw_ret_nil, qloopQ_exit, qloopQ_ret, qE_ret, qE_norm, qkD_lone, skipOut, ap_nil, ap_cons, apS_own, apS_pt, apS_pe, apS_d, apS_fp, apS_fn, wa_nil, wa_cons, Bool.and_true, Bool.true_and, Bool.not_false]
    refine ⟨by omega, by omega, by omega, by omega, .inl ⟨by omega, ?_⟩⟩
    simp only [Nat.sub_zero, m7, m6, m8, List.length_replicate, envH_nil, WrOk_nil, WrOk_lone, nb_true, nb_false, nb_dec, apply_some, apply_none, apply_skip, putSlot_some, putSlot_none, setB, argSlots, St.ev, St.evC, St.evV, lk, wrs, allW, ret, retV, evL, capL, intV, bldL, frzL, frzRL, rowsL, app1, wr1, kSt, if_true, if_false, Nat.reduceEqDiff, reduceCtorEq, binK, true_and, and_true, decide_eq_true_eq, decide_eq_false_iff_not, List.length_map, Int.toNat_natCast, ldC, List.map_cons, List.map_nil, List.length_cons, List.length_nil, List.take_succ_cons, List.take_zero, A1.cells, hset, hp, splice, List.getElem?_cons_zero, List.getElem?_cons_succ, Option.join_some, List.drop_succ_cons, List.drop_zero, Nat.zero_add, Nat.reduceAdd, Nat.reduceLeDiff, Nat.reduceLT, List.nil_append, List.cons_append, List.append_nil, List.drop_nil, Nat.le_refl, clipC, eqCells, eqCell, eqB_t, eqB_f, dec_and, and_t, NilK_f, NilK_t, resS, List.isEmpty_iff, cast1, cast0, toNat0, toNat1, s1_mv, sS_mv, s1_pick, sS_pick, s1_box, sS_box, s1_zbox, sS_zbox, s1_build, sS_build, s1_bslice, sS_bslice, s1_load, sS_load, s1_store, sS_store, s1_fieldA, sS_fieldA, s1_field, sS_field, s1_indexA, sS_indexA, s1_sidx, sS_sidx, s1_slice, sS_slice, s1_sslice, sS_sslice, s1_fn, sS_fn, s1_app, sS_app, s1_appz, sS_appz, s1_copy, sS_copy, s1_clear, sS_clear, s1_mk, sS_mk, s1_call, sS_call, s1_callv, sS_callv, s1_ext, sS_ext, s1_len, sS_len, s1_slen, sS_slen, s1_cap, sS_cap, s1_bin, sS_bin, s1_eqnil, s1_not, sS_not, s1_beq, sS_beq, s1_neg, sS_neg, s1_max, sS_max, s1_min, sS_min, s1_mins, sS_mins, minL, s1_conv, sS_conv, s1_istr, sS_istr, s1_eqs, sS_eqs, sS_eqnil, qkOps_eq, qvcOps_nil, qvcOps_none, qvcOps_some, qgOps_11, qgOps_00, qgOps_10, qgOps_01, qkD_nil, qvcD_nil, qvcD_none, qvcD_some, qgD_11, qgD_00, qgD_10, qgD_01, qPickK_1, qPickK_0, qvc_skip, qvc_reg, qvc_regd, qvc_seq, qvc_block, qvc_loop, qvc_sem, qvc_exit, qvc_ret, qvc_cond, qcnd_1, qcnd_0, qnrmK_seq, qnrmK_blk, qnrmK_nil, qunw_exit_seq, qunw_exit_blk, qunw_exit_nil, qunw_ret_seq, qunw_ret_blk, qunw_ret_nil, qloopQ_exit, qloopQ_ret, qE_ret, qE_norm, qkD_lone, skipOut, ap_nil, ap_cons, apS_own, apS_pt, apS_pe, apS_d, apS_fp, apS_fn, wa_nil, wa_cons, Bool.and_true, Bool.true_and, Bool.not_false]
    have m9 : (rows.take i ++ rows.drop j ++ rows.drop (i + (n - j))).take (i + (n - j)) = rows.take i ++ rows.drop j := by
      rw [List.take_append_of_le_length (by simp; omega), List.take_of_length_le (by simp; omega)]
    refine ⟨by omega, by simp; omega, ?_⟩
    rw [m9]
    refine fin_re [0] ?_ (by decide) ?_ ?_
    · simp only [reBs, reB, hp, List.getElem?_cons_zero, Option.join_some, true_and, and_true]
      exact .inr ⟨_, List.append_assoc _ _ _⟩
    · simp [keeps, keep1]
    · simp [reAs, reA, reC, hp] <;> omega

end

def cloneI {α : Type} (xs : List α) : Option (List α) := if xs.length ≤ 4294967290 then some xs else none
def insI {α : Type} (xs : List α) (i : Int) (x : α) : Option (List α) := if 0 ≤ i ∧ i ≤ xs.length ∧ xs.length ≤ 4294967289 then some (xs.take i.toNat ++ x :: xs.drop i.toNat) else none
def delI {α : Type} (xs : List α) (i j : Int) : Option (List α) := if 0 ≤ i ∧ i ≤ j ∧ j ≤ xs.length ∧ xs.length ≤ 4294967290 then some (xs.take i.toNat ++ xs.drop j.toNat) else none

section
variable {P : Program} {f g rr : FuncId} {sz bt : Nat} {z : List D} {α : Type} {enc : α → List D}
theorem rowsSz (hs : ∀ y, (enc y).length = sz) (xs : List α) : RowsSz (xs.map enc) sz := fun r hr => by
  obtain ⟨y, _, rfl⟩ := List.mem_map.1 hr; exact hs y

theorem L_clone (hf : afn P f = some (cloneA sz bt)) (hs : ∀ y, (enc y).length = sz) {xs r : List α} (h : cloneI xs = some r) : CallD P f [.c (.d (.sl (xs.map enc)))] [] (tupV [.c (.own 0 1 0 r.length none)]) [some (.arr 1 sz (r.map enc))] := by
  unfold cloneI at h
  split at h
  · cases h
    have := clone_spec hf (xs.map enc) (by simp; omega) (rowsSz hs xs)
    rw [List.length_map] at this
    exact this
  · cases h

theorem L_insert (hf : afn P f = some (insertA sz bt z g rr)) (hov : ∀ (e0 e1 o0 o1 l0 l1 : Nat) (c0 c1 : Option Nat) (r0 r1 : List (List D)), CallD P g [.c (.own 0 e0 o0 l0 c0), .c (.own 1 e1 o1 l1 c1)] [some (.arr e0 sz r0), some (.arr e1 sz r1)] (.one (aB false)) [some (.arr e0 sz r0), some (.arr e1 sz r1)])
    (hs : ∀ y, (enc y).length = sz) {xs r : List α} {i : Int} {x : α} {e0 e1 : Nat} (h : insI xs i x = some r) :
    CallD P f [.c (.own 0 e0 0 xs.length none), aI i, .c (.own 1 e1 0 [x].length none)] [some (.arr e0 sz (xs.map enc)), some (.arr e1 sz ([x].map enc))] (tupV [.c (.own 0 (e0 + 1) 0 r.length none)]) [some (.arr (e0 + 1) sz (r.map enc)), some (.arr e1 sz ([x].map enc))] := by
  unfold insI at h
  split at h
  · rename_i h0
    cases h
    obtain ⟨n, rfl⟩ : ∃ n : Nat, i = n := ⟨i.toNat, by omega⟩
    have := insert_spec hf hov (xs.map enc) (enc x) n e0 e1 xs.length (by simp) (by omega) (by omega) (rowsSz hs xs) (hs x)
    have e : (xs.take n ++ x :: xs.drop n).length = xs.length + 1 := by simp; omega
    have e2 : (xs.take n ++ x :: xs.drop n).map enc = (xs.map enc).take n ++ enc x :: (xs.map enc).drop n := by simp
    rw [Int.toNat_natCast, e, e2]
    exact this
  · cases h

theorem L_delete (hf : afn P f = some (deleteA sz bt z)) (hs : ∀ y, (enc y).length = sz) {xs r : List α} {i j : Int} {e0 : Nat} (h : delI xs i j = some r) :
    CallD P f [.c (.own 0 e0 0 xs.length none), aI i, aI j] [some (.arr e0 sz (xs.map enc))] (tupV [.c (.own 0 (e0 + 1) 0 r.length none)]) [some (.arr (e0 + 1) sz (r.map enc))] := by
  unfold delI at h
  split at h
  · rename_i h0
    cases h
    obtain ⟨n, rfl⟩ : ∃ n : Nat, i = n := ⟨i.toNat, by omega⟩
    obtain ⟨m, rfl⟩ : ∃ n : Nat, j = n := ⟨j.toNat, by omega⟩
    have := delete_spec hf (xs.map enc) n m e0 xs.length (by simp) (by omega) (by omega) (by omega) (rowsSz hs xs)
    have e : (xs.take n ++ xs.drop m).length = xs.length - (m - n) := by simp; omega
    rw [Int.toNat_natCast, Int.toNat_natCast, e, List.map_append, List.map_take, List.map_drop]
    exact this
  · cases h
end
end Go.Fw

namespace Go.Fw

theorem clrL_len {α : Type} {xs : List α} {off len : Nat} {z : α} (h : off + len ≤ xs.length) : (clrL xs off len z).length = xs.length := by
  simp only [clrL, List.length_append, List.length_take, List.length_replicate, List.length_drop]; omega

theorem t_idxNil {P : Program} {op : AOp} {s : St} {K : Out → Prop} {α : Type} {enc : α → List D} {y : α} (h : (none : Option α) = some y) (_ : K ⟨some (.one (.c (.fp (enc y)))), []⟩) : s1 P op s K := nomatch h

/-! strings.Compare. -/

def scmp (a b : ByteArray) : Int := if lt a b then -1 else if a = b then 0 else 1
def cmpS (a b : ByteArray) : Option Int := some (scmp a b)

theorem cb_eq : ∀ x y : List UInt8, Lib.compareBytes x y = if Op.bytesLess x y = true then -1 else if Op.bytesLess y x = true then 1 else 0
  | [], [] => rfl
  | [], _ :: _ => rfl
  | _ :: _, [] => rfl
  | a :: x, b :: y => by
    have ih := cb_eq x y
    simp only [Lib.compareBytes, Op.bytesLess, Bool.or_eq_true, decide_eq_true_eq, Bool.and_eq_true, beq_iff_eq]
    by_cases h1 : a < b
    · rw [if_pos h1, if_pos (.inl h1)]
    · by_cases h2 : b < a
      · rw [if_neg h1, if_pos h2, if_neg, if_pos (.inl h2)]
        rintro (h | ⟨rfl, _⟩)
        · exact h1 h
        · exact h1 h2
      · have hab : a = b := UInt8.le_antisymm (UInt8.not_lt.1 h2) (UInt8.not_lt.1 h1)
        subst hab
        rw [if_neg h1, if_neg h1, ih]
        simp [h1]

theorem cmp_scmp (a b : ByteArray) : Extern.BytealgCompare.cmp a b = scmp a b := by
  rw [Lib.cmp_eq, cb_eq]
  have e : ∀ s : ByteArray, s.data.toList = s.toList := fun s => (ByteArray.toList_eq s).symm
  rw [e, e]
  unfold scmp
  by_cases h1 : Op.bytesLess a.toList b.toList = true
  · rw [if_pos h1, if_pos (show lt a b from h1)]
  · rw [if_neg h1, if_neg (show ¬ lt a b from h1)]
    by_cases h2 : Op.bytesLess b.toList a.toList = true
    · rw [if_pos h2, if_neg]
      rintro rfl; exact h1 h2
    · rw [if_neg h2, if_pos]
      exact lt_tri h1 h2

theorem L_cmp {P : Program} {f : FuncId} {fn : Func} (hf : P.funcs[f]? = some fn) (hname : (fn.name == "runtime.NumGoroutine") = false) (hb : fn.body.isNone = true) (hn : Extern.findNext fn = none)
    (he : Extern.find fn = some Extern.BytealgCompare.compare) {a b : ByteArray} {r : Int} (h : cmpS a b = some r) : CallD P f [.c (.d (.v (.string a))), .c (.d (.v (.string b)))] [] (tupV [.c (.d (.v (.int .i64 r)))]) [] := by
  cases h
  intro φ F w vs hr hA
  cases hA with
  | cons hx hA =>
    cases hA with
    | cons hy hA =>
      cases hA
      cases hx; cases hy
      refine .inr ⟨.int .i64 (scmp a b), w, ?_, φ, F, DRep.v _ rfl, hr, Stp.refl _ _ _ _, Fr.refl _ _ _⟩
      rw [run_callFunc_extern hf hname hb hn he]
      have e : (Extern.BytealgCompare.compare #[.string a, .string b]).run P w = .ok (.int .i64 (Extern.BytealgCompare.cmp a b)) w := rfl
      rw [← cmp_scmp]
      show ((Extern.BytealgCompare.compare #[.string a, .string b]).run P w).andThen _ = _
      rw [e]; rfl
theorem guard_some {α : Type} {o : Option α} {p : α → Prop} [DecidablePred p] {r : α} (h : (o.bind fun r => if p r then some r else none) = some r) : o = some r ∧ p r := by
  obtain ⟨x, h1, h2⟩ := Option.bind_eq_some_iff.1 h
  split at h2
  · rename_i hp; cases h2; exact ⟨h1, hp⟩
  · cases h2
end Go.Fw

namespace Go.Fw
open Go.Sort Go.Proofs Go.Shelf

/-! slices.Sort and slices.Compact at strings, from the kit's contracts. -/

theorem take_mapL {α β : Type} {f : α → β} {l : List α} : List.take l.length (List.map f l) = List.map f l := by
  rw [← List.length_map f, List.take_length]
/-- A list that is written out. -/
def lit {α : Type} (xs : List α) : List α := xs

def bl (b : ByteArray) : List UInt8 := b.data.toList
def lb (l : List UInt8) : ByteArray := ⟨l.toArray⟩
theorem lb_bl (b : ByteArray) : lb (bl b) = b := by cases b; simp [lb, bl]
theorem bl_lb (l : List UInt8) : bl (lb l) = l := by simp [lb, bl]
def insS (x : List UInt8) : List (List UInt8) → List (List UInt8)
  | [] => [x]
  | y :: r => if Op.bytesLess y x then y :: insS x r else x :: y :: r
def insL : List (List UInt8) → List (List UInt8)
  | [] => []
  | x :: r => insS x (insL r)
/-- Sorted, by insertion. -/
def sortL (xs : List ByteArray) : List ByteArray := (insL (xs.map bl)).map lb
theorem bless_lt' : ∀ x y : List UInt8, Op.bytesLess x y = decide (x < y)
  | [], [] => by simp [Op.bytesLess]
  | [], b :: y => by simp [Op.bytesLess]
  | a :: x, [] => by simp [Op.bytesLess]
  | a :: x, b :: y => by
    rw [Op.bytesLess, bless_lt' x y, Bool.eq_iff_iff]
    simp only [Bool.or_eq_true, decide_eq_true_eq, Bool.and_eq_true, beq_iff_eq, List.cons_lt_cons_iff]
theorem insS_perm (x : List UInt8) : ∀ l, (insS x l).Perm (x :: l)
  | [] => List.Perm.refl _
  | y :: r => by
    unfold insS; split
    · exact ((insS_perm x r).cons y).trans (List.Perm.swap x y r)
    · exact List.Perm.refl _
theorem insL_perm : ∀ l, (insL l).Perm l
  | [] => List.Perm.refl _
  | x :: r => (insS_perm x _).trans ((insL_perm r).cons x)
theorem insS_pw (x : List UInt8) : ∀ {l : List (List UInt8)}, l.Pairwise (· ≤ ·) → (insS x l).Pairwise (· ≤ ·)
  | [], _ => by simp [insS]
  | y :: r, h => by
    have h2 := List.pairwise_cons.1 h
    unfold insS; split
    · rename_i hl
      rw [bless_lt', decide_eq_true_eq] at hl
      refine List.pairwise_cons.2 ⟨fun z hz => ?_, insS_pw x h2.2⟩
      rcases List.mem_cons.1 ((insS_perm x r).mem_iff.1 hz) with e | hz
      · subst e; exact List.le_of_lt hl
      · exact h2.1 z hz
    · rename_i hl
      rw [bless_lt', decide_eq_true_eq] at hl
      refine List.pairwise_cons.2 ⟨fun z hz => ?_, h⟩
      rcases List.mem_cons.1 hz with e | hz
      · subst e; exact List.not_lt.1 hl
      · exact List.le_trans (List.not_lt.1 hl) (h2.1 z hz)
theorem insL_pw : ∀ l, (insL l).Pairwise (· ≤ ·)
  | [] => List.Pairwise.nil
  | x :: r => insS_pw x (insL_pw r)
theorem insL_eq (l : List (List UInt8)) : insL l = l.mergeSort fun x y => decide (x ≤ y) := by
  refine List.Perm.eq_of_pairwise (le := (· ≤ ·)) (fun a b _ _ h1 h2 => List.le_antisymm h1 h2) (insL_pw l) ?_ ((insL_perm l).trans (List.mergeSort_perm l _).symm)
  refine (List.pairwise_mergeSort (le := fun x y : List UInt8 => decide (x ≤ y)) (fun a b c h1 h2 => by simp only [decide_eq_true_eq] at *; exact List.le_trans h1 h2) (fun a b => by simp only [Bool.or_eq_true, decide_eq_true_eq]; exact List.le_total a b) l).imp fun {a b} h => by simpa using h
theorem sortL_eq (xs : List ByteArray) : sortL xs = ((xs.map bl).mergeSort fun x y => decide (x ≤ y)).map lb := by rw [sortL, insL_eq]
def compL (xs : List ByteArray) : List ByteArray := (Lib.compact (xs.map bl)).map lb
def sortI (xs : List ByteArray) : Option (List ByteArray) := if xs.length ≤ 4294967290 then some (sortL xs) else none
def compI (xs : List ByteArray) : Option (List ByteArray) := if xs.length ≤ 4294967290 then some (compL xs) else none
theorem sortL_len (xs : List ByteArray) : (sortL xs).length = xs.length := by simp [sortL_eq]
theorem compL_len (xs : List ByteArray) : (compL xs).length ≤ xs.length := by
  have := Lib.compact_length_le (xs.map bl)
  simpa [compL] using this

theorem sortI_len {xs r : List ByteArray} (h : sortI xs = some r) : r.length = xs.length := by
  unfold sortI at h
  split at h
  · cases h; exact sortL_len xs
  · cases h

/-- A row of strings is written in place, and blocks are laid behind. -/
theorem put_rel {φ : Phi} {F : Nat → Prop} {w : World} {e e' : Nat} {xs ys : List ByteArray} {b o : Nat} {ds : List (List UInt8)} {n : Nat} {os : Array Obj}
    (hr : Rel φ F (hp [some (.arr e 1 (xs.map eS))]) w) (hφ : φ 0 = some (b, o)) (hd : ds.length = xs.length) (hy : ds.map lb = ys ∨ ∃ zs, ds.map lb = ys ++ zs)
    (he : e < e' ∨ e = e' ∧ ys.length = xs.length) :
    ∃ w', w' = grow (putRow encStr (Sort.ahead w n) b o ds.toArray) os ∧ Rel φ F (hp [some (.arr e' 1 (ys.map eS))]) w' ∧ Stp φ F (hp [some (.arr e 1 (xs.map eS))]) w φ F (hp [some (.arr e' 1 (ys.map eS))]) w' ∧ Fr φ F w φ F w' ∧ bsize w' b = bsize w b := by
  refine ⟨_, rfl, ?_⟩
  generalize hw' : grow (putRow encStr (Sort.ahead w n) b o ds.toArray) os = w'
  have hB := hr.blk 0 _ rfl
  rcases hB with ⟨h1, _⟩ | ⟨b0, o0, cs, T, h1, h2, h3, h4, h5⟩
  · rw [hφ] at h1; cases h1
  rw [hφ] at h1
  simp only [Option.some.injEq, Prod.mk.injEq] at h1
  obtain ⟨rfl, rfl⟩ := h1
  have hblt : b < w.heap.size := hr.lt hφ
  have hrest : ∀ c, c < w.heap.size → c ≠ b → w'.heap[c]? = w.heap[c]? := by
    intro c hc hcb
    rw [← hw']
    simp only [grow, putRow, mapBlock, Sort.ahead]
    rw [Array.getElem?_append_left (by simpa using hc), Array.getElem?_modify, if_neg (Ne.symm hcb)]
  have hsize : w.heap.size ≤ w'.heap.size := by rw [← hw']; simp [grow, putRow, mapBlock, Sort.ahead]
  have hblk : w'.heap[b]? = some (.cells (putCells encStr o ds.toArray cs) T (0, 0)) := by
    rw [← hw']
    simp only [grow, putRow, mapBlock, Sort.ahead]
    rw [Array.getElem?_append_left (by simpa using hblt), Array.getElem?_modify, if_pos rfl, h2]
    rfl
  have hsz : (putCells encStr o ds.toArray cs).size = cs.size := by simp [putCells]
  have hlen : ys.length ≤ xs.length := by
    rcases hy with hy | ⟨zs, hy⟩
    · have := congrArg List.length hy; simp at this; omega
    · have := congrArg List.length hy; simp at this; omega
  have hget : ∀ i y, ys[i]? = some y → (putCells encStr o ds.toArray cs)[o + i]? = some (.string y) := by
    intro i y hi
    have hil := (List.getElem?_eq_some_iff.1 hi).1
    simp only [List.length_map] at h3
    have hdi : (ds.map lb)[i]? = some y := by
      rcases hy with hy | ⟨zs, hy⟩
      · rw [hy]; exact hi
      · rw [hy, List.getElem?_append_left hil]; exact hi
    rw [List.getElem?_map, Option.map_eq_some_iff] at hdi
    obtain ⟨l, hl, rfl⟩ := hdi
    have hcs : cs[o + i]? = some cs[o + i] := Array.getElem?_eq_getElem (by omega)
    simp only [putCells, Array.getElem?_mapIdx, hcs, Option.map_some]
    rw [if_pos (by simp only [List.size_toArray]; omega)]
    have e : o + i - o = i := by omega
    rw [e]
    have : ds.toArray[i]! = l := by
      rw [getElem!_pos _ i (by simp only [List.size_toArray]; omega)]
      have := (List.getElem?_eq_some_iff.1 hl)
      simpa using this.2
    rw [this]; rfl
  have hbs : bsize w' b = bsize w b := by simp only [bsize, hblk, h2, hsz]
  have upd0 : upd φ 0 (φ 0) = φ := by funext j; by_cases hj : j = 0
                                      · subst hj; simp
                                      · rw [upd_ne _ _ hj]
  have updG : upd (hp [some (.arr e 1 (xs.map eS))]) 0 (some (.arr e' 1 (ys.map eS))) = hp [some (.arr e' 1 (ys.map eS))] := by
    funext j
    cases j with
    | zero => simp [upd, hp]
    | succ j => simp [upd, hp]
  have := hr.update 0 (φ 0) (.arr e' 1 (ys.map eS)) w' hsize (by rw [← hw']; exact ⟨rfl, rfl⟩)
    (fun c hc hn => hrest c hc fun e => hn o (by rw [hφ, e])) (fun c oc hc => .inl ⟨oc, hc⟩)
    (by
      rw [upd0]
      refine ⟨by omega, fun hee => ⟨rfl, ?_, rfl, fun c oc hc => ?_⟩⟩
      · simp only [List.length_map]; omega
      · rw [hφ] at hc; cases hc; exact hbs)
    (fun stp => by
      refine .inr ⟨b, o, _, T, by rw [upd0]; exact hφ, hblk, ?_, ?_, ?_⟩
      · rw [hsz]; simp only [List.length_map] at h3 ⊢; omega
      · intro row hrow
        obtain ⟨y, _, rfl⟩ := List.mem_map.1 hrow; rfl
      · intro i row hi j d hj
        rw [List.getElem?_map, Option.map_eq_some_iff] at hi
        obtain ⟨y, hy', rfl⟩ := hi
        cases j with
        | succ j => simp [eS] at hj
        | zero =>
          simp only [eS, List.getElem?_cons_zero, Option.some.injEq] at hj
          subst hj
          exact ⟨.string y, by rw [Nat.mul_one, Nat.add_zero]; exact hget i y hy', .v _ rfl⟩)
  rw [upd0, updG] at this
  exact ⟨this.1, this.2.1, this.2.2, hbs⟩

theorem holds_row {φ : Phi} {F : Nat → Prop} {w : World} {e : Nat} {xs : List ByteArray} {b o : Nat} (hr : Rel φ F (hp [some (.arr e 1 (xs.map eS))]) w) (hφ : φ 0 = some (b, o)) : Holds encStr w b o (xs.map bl).toArray := by
  intro j hj
  simp only [List.size_toArray, List.length_map] at hj
  have hB := hr.blk 0 _ rfl
  rcases hB with ⟨h1, _⟩ | ⟨b0, o0, cs, T, h1, h2, h3, h4, h5⟩
  · rw [hφ] at h1; cases h1
  rw [hφ] at h1
  simp only [Option.some.injEq, Prod.mk.injEq] at h1
  obtain ⟨rfl, rfl⟩ := h1
  obtain ⟨u, hu, hd⟩ := h5 j (eS xs[j]) (by rw [List.getElem?_map, List.getElem?_eq_getElem hj]; rfl) 0 _ rfl
  rw [Nat.mul_one, Nat.add_zero] at hu
  have hv : u = .string xs[j] := by cases hd; rfl
  subst hv
  refine ⟨?_, by simp [World.frozen?, h2]⟩
  rw [cell?_of_heap h2, hu]
  have : (xs.map bl).toArray[j]! = bl xs[j] := by
    rw [getElem!_pos _ j (by simpa using hj)]; simp
  rw [this]
  show some (Value.string xs[j]) = some (Value.string (lb (bl xs[j])))
  rw [lb_bl]

theorem L_sort {P : Program} {f : FuncId} {ρ : Ren} (L : Lays.n190 P ρ) (hf : ρ.f 190 = f) (hok : okFn P f = true) {xs r : List ByteArray} {e0 : Nat} (h : sortI xs = some r) :
    CallD P f [.c (.own 0 e0 0 xs.length none)] [some (.arr e0 1 (xs.map eS))] (tupV []) [some (.arr e0 1 (r.map eS))] := by
  unfold sortI at h
  split at h
  · rename_i hl
    cases h
    intro φ F w vs hr hA
    cases hA with
    | cons hv hA =>
      cases hA
      obtain ⟨e, sz, rows, hG, _, A, l, k, rfl, hk⟩ := hv
      cases hG
      obtain ⟨rfl, hlk, _, _, hor⟩ := hk rfl
      refine .inl ⟨hok, ?_⟩
      cases xs with
      | nil =>
        have := Any.slices_Sort_string_none L A k w
        rw [hf] at this
        refine this.mono ?_
        rintro e' w' ⟨rfl, rfl⟩
        have e0' : sortL [] = [] := rfl
        rw [e0']
        exact ⟨_, rfl, φ, F, ⟨[], rfl, .nil⟩, hr, Stp.refl _ _ _ _, Fr.refl _ _ _⟩
      | cons x xs =>
        rcases hor with h0 | ⟨b, o, n, hφ, rfl, hn, hle⟩
        · simp only [List.length_cons] at hlk; omega
        simp only [Nat.zero_mul, Nat.add_zero]
        have := Any.slices_Sort_string L b o k (((x :: xs).map bl)) w (holds_row hr hφ) (hr.lt hφ) (by simp only [List.length_map]; omega)
        rw [hf, List.length_map] at this
        refine this.mono ?_
        rintro e' w' ⟨rfl, n, os, hw⟩
        obtain ⟨w2, q1, q2, q3, q4, _⟩ := put_rel (n := n) (os := os) (e' := e0) (ys := sortL (x :: xs)) hr hφ (ds := ((x :: xs).map bl).mergeSort fun x y => decide (x ≤ y)) (by simp) (.inl (sortL_eq _).symm) (.inr ⟨rfl, sortL_len _⟩)
        rw [← q1] at hw
        subst hw
        exact ⟨_, rfl, φ, F, ⟨[], rfl, .nil⟩, q2, q3, q4⟩
  · cases h

theorem L_comp {P : Program} {f : FuncId} {ρ : Ren} (L : Lays.n194 P ρ) (hf : ρ.f 194 = f) (hok : okFn P f = true) {xs r : List ByteArray} {e0 : Nat} (h : compI xs = some r) :
    CallD P f [.c (.own 0 e0 0 xs.length none)] [some (.arr e0 1 (xs.map eS))] (tupV [.c (.own 0 (e0 + 1) 0 r.length none)]) [some (.arr (e0 + 1) 1 (r.map eS))] := by
  unfold compI at h
  split at h
  · rename_i hl
    cases h
    intro φ F w vs hr hA
    cases hA with
    | cons hv hA =>
      cases hA
      obtain ⟨e, sz, rows, hG, _, A, l, k, rfl, hk⟩ := hv
      cases hG
      obtain ⟨rfl, hlk, _, _, hor⟩ := hk rfl
      refine .inl ⟨hok, ?_⟩
      cases xs with
      | nil =>
        have := Any.slices_Compact_string_empty L A k w
        rw [hf] at this
        refine this.mono ?_
        rintro e' w' ⟨rfl, rfl⟩
        have hB := hr.blk 0 _ rfl
        have upd0 : upd φ 0 (φ 0) = φ := by funext j; by_cases hj : j = 0
                                            · subst hj; simp
                                            · rw [upd_ne _ _ hj]
        have updG : upd (hp [some (.arr e0 1 (([] : List ByteArray).map eS))]) 0 (some (.arr (e0 + 1) 1 [])) = hp [some (.arr (e0 + 1) 1 [])] := by
          funext j
          cases j with
          | zero => simp [upd, hp]
          | succ j => simp [upd, hp]
        have := hr.update 0 (φ 0) (.arr (e0 + 1) 1 []) w' (Nat.le_refl _) (Io.refl _) (fun _ _ _ => rfl) (fun c oc hc => .inl ⟨oc, hc⟩)
          (by rw [upd0]; exact ⟨by omega, fun hee => by omega⟩)
          (fun stp => by
            rcases hB with ⟨h1, _⟩ | ⟨b, o, cs, T, h1, h2, h3, _, _⟩
            · exact .inl ⟨by rw [upd0]; exact h1, rfl⟩
            · exact .inr ⟨b, o, cs, T, by rw [upd0]; exact h1, h2, by simpa using h3, (fun row hrow => by cases hrow), fun i row hi => by simp at hi⟩)
        rw [upd0, updG] at this
        refine ⟨_, rfl, φ, F, ?_, this.1, this.2.1, this.2.2⟩
        exact ⟨e0 + 1, 1, [], rfl, Nat.le_refl _, A, 0, k, rfl, fun _ => ⟨rfl, Nat.zero_le _, (fun c hc => by cases hc), fun _ => Nat.le_refl _, hor⟩⟩
      | cons x xs =>
        rcases hor with h0 | ⟨b, o, n, hφ, rfl, hn, hle⟩
        · simp only [List.length_cons] at hlk; omega
        simp only [Nat.zero_mul, Nat.add_zero] at hle ⊢
        have := Any.slices_Compact_string L b o k ((x :: xs).map bl) w (holds_row hr hφ) (by simp only [List.length_map]; omega) (by simpa using hlk)
        rw [hf, List.length_map] at this
        refine this.mono ?_
        rintro e' w' ⟨rfl, q, hw⟩
        have hcl := Lib.compact_length_le ((x :: xs).map bl)
        rw [List.length_map] at hcl
        obtain ⟨w2, q1, q2, q3, q4, q5⟩ := put_rel (n := q) (os := #[]) (e' := e0 + 1) (ys := compL (x :: xs)) hr hφ
          (ds := Lib.compact ((x :: xs).map bl) ++ List.replicate ((x :: xs).length - (Lib.compact ((x :: xs).map bl)).length) []) (by simp only [List.length_append, List.length_replicate]; omega)
          (.inr ⟨_, by rw [List.map_append]; rfl⟩) (.inl (by omega))
        rw [grow_empty] at q1
        rw [← q1] at hw
        subst hw
        have hcl2 : (compL (x :: xs)).length = (Lib.compact ((x :: xs).map bl)).length := by simp [compL]
        refine ⟨_, rfl, φ, F, ?_, q2, q3, q4⟩
        refine ⟨e0 + 1, 1, _, rfl, Nat.le_refl _, _, _, k, rfl, fun _ => ⟨hcl2.symm, by omega, (fun c hc => by cases hc), fun _ => by simp, .inr ⟨b, o, n, hφ, by simp, by rw [q5]; exact hn, by omega⟩⟩⟩
  · cases h
end Go.Fw

namespace Go.Proofs
open Go.RowKit Go.Maps Go.Sort Go.Shelf
variable {P : Program} {ρ : Ren}

/-! slices.Collect of slices.Values at strings. -/

/-- The rounds keep what lay before. -/
def SeqGivesB (F : Fence) (n : Nat) (P : Program) (g : Nat) (lb : Array Value) (S : List (List UInt8) → Prop) (N : Nat) (w : World) : Prop :=
  ∀ (l : Nat) (J : List (List UInt8) → World → Prop) (W : World), Below w.heap.size w W → AbidesFrom W.heap.size J → (∀ pre W1, J pre W1 → Below w.heap.size w W1) →
    (∀ pre x W1, J pre W1 → pre.length < N → YieldAt F (n - 1) P l #[encStr x] W1 fun e W' => e = .returned (.bool true) ∧ J (pre ++ [x]) W' ∧ KeepsWalks W1 W') →
    J [] W →
    CallsIn F n P g (#[.func (.yield l) #[] #[]] ++ lb) W fun e W' => (∃ v, e = .returned v) ∧ ∃ xs, S xs ∧ J xs W'

set_option maxRecDepth 100000 in
set_option maxHeartbeats 2000000 in
theorem appSeqB (L : SlLaysZ.n11 P ρ) (F : Fence) (n : Nat) (h11 : F.fn (ρ.f 11)) (hro : F.round = none) (hn : 2 ≤ n) (g : Nat) (lb : Array Value) (hFg : F.fn g) (eg : ∀ args w, (callFunc g args).run P w = .ok (.enter g args) w)
    (S : List (List UInt8) → Prop) (N : Nat) (hN : N ≤ maxLen) (hNb : N * 16 ≤ 140737488355328) (w : World) (hseq : SeqGivesB F (n - 1) P g lb S N w) :
    CallsIn F n P (ρ.f 11) #[.slice none 0 0, .func (.func g) #[] lb] w fun e w' => ∃ (v : Value) (ss : List (List UInt8)), e = .returned v ∧ S ss ∧ w'.ownsRow w.heap.size (ρ.t 26) 1 v ss.length (ss.map encStr) ∧ (v = .slice none 0 0 ↔ ss = []) ∧ Below w.heap.size w w' := by
  have h1 : 1 ≤ n := by omega
  have mixed := L.mixed; have t0 := L.t0; have a0 := L.a0; have z0 := L.z0; have v0 := L.v0; have t24 := L.t24; have a24 := L.a24; have z24 := L.z24; have v24 := L.v24; have t26 := L.t26; have a26 := L.a26; have z26 := L.z26; have v26 := L.v26; have t28 := L.t28; have a28 := L.a28; have z28 := L.z28; have v28 := L.v28
  have hne : ρ.t 24 ≠ ρ.t 26 := fun e => by have h := L.t24; rw [e, L.t26] at h; cases h
  have u0 := run_underlying L.t0; have u24 := run_underlying L.t24; have u26 := run_underlying L.t26; have u28 := run_underlying L.t28
  obtain ⟨_, _, FG⟩ := L.f11
  refine callsIn_of_wp_marks FG rfl h11 ?_ hro
  simp only [SlBodyZ.n11_ntmps ρ, List.size_toArray, List.length_cons, List.length_nil, Nat.reduceAdd, Nat.reduceSub, Array.replicate_succ, Array.replicate_zero, List.push_toArray, List.append_toArray, List.nil_append, List.cons_append]
  gi_wp2
  refine wpIn_rangeFunc ?_
  intro fn hfn
  rw [hro]
  obtain ⟨W0, hW0⟩ : ∃ W0, w.alloc (.cells #[.slice none 0 0] (ρ.t 24)) = W0 := ⟨_, rfl⟩
  have hs0 : W0.heap.size = w.heap.size + 1 := by rw [← hW0]; simp
  have hv0 : W0.heap[w.heap.size]? = some (.cells #[.slice none 0 0] (ρ.t 24) (0, 0)) := by rw [← hW0]; exact World.alloc_heap_new w _
  have hb0 : Below w.heap.size w W0 := by rw [← hW0]; exact (Below.refl _ w).alloc (Nat.le_refl _) _
  rw [hW0]
  obtain ⟨W1, hW1⟩ : ∃ W1, (W0.alloc (.deferred (some []))).alloc (.loop (AnyZ.apRec ρ fn (.func (.func g) #[] lb) w.heap.size W0.heap.size .ready none)) = W1 := ⟨_, rfl⟩
  have hold : ∀ k, k < W0.heap.size → W1.heap[k]? = W0.heap[k]? := fun k hk => by
    rw [← hW1]; exact (Below.heap_alloc _ _ k (by simp; omega)).trans (Below.heap_alloc _ _ k hk)
  have hb1 : Below w.heap.size w W1 := by rw [← hW1]; exact (hb0.alloc hb0.size _).alloc (by have := hb0.size; simp; omega) _
  have hs1 : W1.heap.size = W0.heap.size + 2 := by rw [← hW1]; simp
  have hM : AnyZ.ApAt ρ w fn (.func (.func g) #[] lb) w.heap.size (W0.heap.size + 1) W0.heap.size [] W1 :=
    ⟨⟨_, (hold w.heap.size (by omega)).trans hv0, ⟨rfl, .inl ⟨rfl, rfl⟩⟩, by simp⟩,
     by rw [← hW1]; have := World.alloc_heap_new (W0.alloc (.deferred (some []))) (.loop (AnyZ.apRec ρ fn (.func (.func g) #[] lb) w.heap.size W0.heap.size .ready none)); rwa [World.size_alloc] at this,
     by rw [← hW1]; exact (Below.heap_alloc _ _ _ (by simp)).trans (World.alloc_heap_new W0 _), hb1⟩
  refine ⟨W0.heap.size + 1, [{ target := .collected W0.heap.size, args := #[] }], W1, { target := .fn (.func g) lb, args := #[.func (.yield (W0.heap.size + 1)) #[] #[]] }, W1, g,
    #[.func (.yield (W0.heap.size + 1)) #[] #[]] ++ lb, W1, ?_, ?_, ?_, ?_, fun _ => h1, ?_⟩
  · rw [← hW1]; exact run_enterLoop_outer _ _ _ _ _
  · simp [resolve, go_sem]
  · intro f' hf'; simp [Target.leads] at hf'; subst hf'; exact hFg
  · simp [invoke, go_sem, eg]
  · refine (hseq (W0.heap.size + 1) (AnyZ.ApAt ρ w fn (.func (.func g) #[] lb) w.heap.size (W0.heap.size + 1) W0.heap.size) W1 hb1 (AnyZ.ap_abides ρ _ _ _ _ _ _ _ hb1.size) (fun _ _ h => h.below)
      (fun pre x W hJ hl => AnyZ.apYield { L with } F (n - 1 - 1) w fn hfn _ w.heap.size (W0.heap.size + 1) W0.heap.size (by omega) (by omega) (by omega) (Nat.le_refl _) (by omega) N hN hNb pre x W hJ hl) hM).mono ?_
    rintro e W2 ⟨⟨v0, rfl⟩, ss, hS, h2⟩
    obtain ⟨v, hv, hrow, hnil⟩ := h2.box
    have hend := run_endLoop (P := P) h2.L (by simp [AnyZ.apRec])
    obtain ⟨W3, hW3⟩ : ∃ W3, W2.putObj (W0.heap.size + 1) (.loop { AnyZ.apRec ρ fn (.func (.func g) #[] lb) w.heap.size W0.heap.size .ready none with state := .exhausted }) = W3 := ⟨_, rfl⟩
    rw [hW3] at hend
    have hg3 : W2.grownBy W3 (some (W0.heap.size + 1)) := by rw [← hW3]; exact grownBy_putObj_a _ _ _
    have hv3 : W3.heap[w.heap.size]? = some (.cells #[v] (ρ.t 24) (0, 0)) := by rw [← hW3]; exact (World.putObj_heap_other (by omega)).trans hv
    have hK3 : W3.heap[W0.heap.size]? = some (.deferred (some [])) := by rw [← hW3]; exact (World.putObj_heap_other (by omega)).trans h2.K
    have hrow3 := hrow.kept hg3 (ownsRow_ne_a hrow h2.L (fun cur e => by first | cases e | exact hne (Obj.cells.inj e).2.1))
    have hb3 : Below w.heap.size w W3 := h2.below.grown hg3 h2.below.size (fun k e => by cases e; omega)
    obtain ⟨hc3, hf3⟩ := cell_of_box_a hv3
    clear hW3
    refine ⟨none, W3, hend, ?_⟩
    gi_wp2
    rw [← hs0]
    refine ⟨by simp, .inl ⟨_, _, rfl, run_takeDeferred hK3, ?_⟩⟩
    exact ⟨_, results_tmp rfl _ _ _, v, ss, rfl, hS, hrow3.kept (grownBy_putObj_a _ _ _) (ownsRow_ne_a hrow3 hK3 (fun cur e => by first | cases e | exact hne (Obj.cells.inj e).2.1)), hnil, hb3.grown (grownBy_putObj_a _ _ _) hb3.size (fun k e => by cases e; omega)⟩


set_option maxHeartbeats 1000000 in
theorem collB (L : SlLaysZ.n8 P ρ) (F : Fence) (n : Nat) (h8 : F.fn (ρ.f 8)) (h11 : F.fn (ρ.f 11)) (hro : F.round = none) (hn : 3 ≤ n) (g : Nat) (lb : Array Value) (hFg : F.fn g) (eg : ∀ args w, (callFunc g args).run P w = .ok (.enter g args) w)
    (S : List (List UInt8) → Prop) (N : Nat) (hN : N ≤ maxLen) (hNb : N * 16 ≤ 140737488355328) (w : World) (hseq : SeqGivesB F (n - 1 - 1) P g lb S N w) :
    CallsIn F n P (ρ.f 8) #[.func (.func g) #[] lb] w fun e w' => ∃ (v : Value) (ss : List (List UInt8)), e = .returned v ∧ S ss ∧ w'.ownsRow w.heap.size (ρ.t 26) 1 v ss.length (ss.map encStr) ∧ (v = .slice none 0 0 ↔ ss = []) ∧ Below w.heap.size w w' := by
  have h1 : 1 ≤ n := by omega
  have e11 : ∀ args w, (callFunc (ρ.f 11) args).run P w = .ok (.enter (ρ.f 11) args) w := L.f11.enters rfl
  have mixed := L.mixed; have t0 := L.t0; have a0 := L.a0; have z0 := L.z0; have v0 := L.v0; have t24 := L.t24; have a24 := L.a24; have z24 := L.z24; have v24 := L.v24; have t26 := L.t26; have a26 := L.a26; have z26 := L.z26; have v26 := L.v26; have t28 := L.t28; have a28 := L.a28; have z28 := L.z28; have v28 := L.v28
  have u0 := run_underlying L.t0; have u24 := run_underlying L.t24; have u26 := run_underlying L.t26; have u28 := run_underlying L.t28
  obtain ⟨_, _, FG⟩ := L.f8
  refine callsIn_of_wp FG rfl h8 ?_ hro
  simp only [SlBodyZ.n8_ntmps ρ, List.size_toArray, List.length_cons, List.length_nil, Nat.reduceAdd, Nat.reduceSub, Array.replicate_succ, Array.replicate_zero, List.push_toArray, List.append_toArray, List.nil_append, List.cons_append]
  gi_wp2_with (gi_at_fn (ρ.f 11); refine (appSeqB { L with } F (n - 1) h11 hro (by omega) g lb hFg eg S N hN hNb _ hseq).mono ?_; rintro e w' ⟨v, ss, rfl, hS, hrow, hnil, hb⟩)
  go_ret
  exact ⟨v, ss, rfl, hS, hrow, hnil, hb⟩


end Go.Proofs

namespace Go.Fw
open Go.RowKit Go.Sort Go.Shelf Go.Proofs

/-- slices.Values' closure at strings hands on what the slice holds. -/
structure ValsIn (P : Program) (g : Nat) : Prop where
  full : ∀ (n : Nat), 1 ≤ n → ∀ (l Bs b off len cap : Nat) (zs : List (List UInt8)), len * 16 ≤ 140737488351232 → ∀ (J : List (List UInt8) → World → Prop) (w : World), b < w.heap.size →
    (∀ pre W, J pre W → RowKit.Below w.heap.size w W) →
    (∀ pre x W, J pre W → pre.length < len → YieldAt Fence.wide (n - 1) P l #[encStr x] W fun e W' => e = .returned (.bool true) ∧ J (pre ++ [x]) W' ∧ KeepsWalks W W') →
    ∀ (W : World), W.cell? ⟨Bs, 0, none⟩ = some (.slice (some ⟨b, off, none⟩) len cap) → (∀ j, j < len → w.cell? ⟨b, off + j, none⟩ = some (encStr (zs[j]?.getD []))) → J [] W →
    CallsIn Fence.wide n P g #[.func (.yield l) #[] #[], .pointer (some ⟨Bs, 0, none⟩)] W fun e W' => (∃ v, e = .returned v) ∧ ∃ ys, ys = (List.range len).map (fun j => zs[j]?.getD []) ∧ J ys W'
  none : ∀ (n l Bs : Nat) (J : List (List UInt8) → World → Prop) (W : World) (p : Option Addr) (cap : Nat), W.cell? ⟨Bs, 0, none⟩ = some (.slice p 0 cap) → J [] W →
    CallsIn Fence.wide n P g #[.func (.yield l) #[] #[], .pointer (some ⟨Bs, 0, none⟩)] W fun e W' => (∃ v, e = .returned v) ∧ J [] W'
def collI (xs : List ByteArray) : Option (List ByteArray) := if xs.length ≤ 4294967290 then some xs else none
theorem collI_len {xs r : List ByteArray} (h : collI xs = some r) : r = xs := by
  unfold collI at h
  split at h
  · cases h; rfl
  · cases h
theorem map_bl_range (xs : List ByteArray) : (List.range xs.length).map (fun j => (xs.map bl)[j]?.getD []) = xs.map bl := by
  apply List.ext_getElem
  · simp
  · intro i h1 h2
    simp only [List.length_map] at h2
    simp [h2]
theorem L_coll {P : Program} {f g : FuncId} {ρ : Ren} (L : SlLaysZ.n8 P ρ) (hf : ρ.f 8 = f) (hok : okFn P f = true) (eg : ∀ args w, (callFunc g args).run P w = .ok (.enter g args) w) (hV : ValsIn P g) {xs r : List ByteArray} (h : collI xs = some r) :
    CallD P f [.c (.fn g [(0, 0)])] [some (.box [.d (.sl (xs.map eS))])] (tupV [.c (.own 1 0 0 r.length none)]) [some (.box [.d (.sl (xs.map eS))]), some (.arr 0 1 (r.map eS))] := by
  unfold collI at h
  split at h
  · rename_i hl
    cases h
    intro φ F w vs hr hA
    cases hA with
    | cons hv hA =>
      cases hA
      obtain ⟨us, rfl, hul, hus⟩ := hv
      obtain ⟨cells, b, o, hG, hφ, hu0⟩ := hus 0 (0, 0) rfl
      cases hG
      obtain ⟨b', cs, T, hφ', hblk, hcs⟩ := hr.blk 0 _ rfl
      rw [hφ] at hφ'
      simp only [Option.some.injEq, Prod.mk.injEq] at hφ'
      obtain ⟨rfl, rfl⟩ := hφ'
      have husl : us = [.pointer (some ⟨b, 0, none⟩)] := by
        match us, hul, hu0 with
        | [u], _, hu0 => simpa using hu0
      subst husl
      have hlt : b < w.heap.size := hr.lt hφ
      obtain ⟨u, hcsl, hu⟩ : ∃ u, cs.toList = [u] ∧ DRep w F (.sl (xs.map eS)) u := by
        revert hcs
        generalize cs.toList = cl
        intro hcs
        cases hcs with
        | cons h1 h2 => cases h2; exact ⟨_, rfl, h1⟩
      have hcell : w.cell? ⟨b, 0, none⟩ = some u := by
        rw [cell?_of_heap hblk]
        have : cs = #[u] := by cases cs; simp at hcsl; simp [hcsl]
        rw [this]; rfl
      refine .inl ⟨hok, ?_⟩
      have hseq : SeqGivesB Fence.wide (5 - 1 - 1) P g #[.pointer (some ⟨b, 0, none⟩)] (fun ss => ss = xs.map bl) xs.length w := by
        intro l J W hW _ hJB hY h0
        have hc' : W.cell? ⟨b, 0, none⟩ = some u := (hW.cell (p := ⟨b, 0, none⟩) hlt).trans hcell
        cases xs with
        | nil =>
          cases hu with
          | nil A cap =>
            exact (hV.none _ l b J W A cap hc' h0).mono fun e W' ⟨he, hj⟩ => ⟨he, _, rfl, hj⟩
          | sl rows b2 o2 sz cap u2 hF hcap hsz hcl _ =>
            exact (hV.none _ l b J W _ cap hc' h0).mono fun e W' ⟨he, hj⟩ => ⟨he, _, rfl, hj⟩
        | cons x xs =>
          generalize hys : x :: xs = ys at *
          have hne : ys ≠ [] := by rw [← hys]; simp
          clear hys
          revert hu
          generalize hrs : ys.map eS = rs
          intro hu
          cases hu with
          | nil A cap => simp at hrs; exact (hne hrs).elim
          | sl rows b2 o2 sz cap u2 hF hcap hsz hcl hdr =>
            have hsz1 : sz = 1 := by
              have hpos : 0 < ys.length := List.length_pos_iff.2 hne
              have := hsz (eS ys[0]) (by rw [← hrs]; exact List.mem_map.2 ⟨_, List.getElem_mem hpos, rfl⟩)
              exact this.symm
            subst hsz1
            have hlen : rs.length = ys.length := by rw [← hrs, List.length_map]
            rw [hlen] at hc'
            have := hV.full (5 - 1 - 1) (by omega) l b b2 o2 ys.length cap (ys.map bl) (by omega) J w (hr.frz _ hF).1 hJB hY W hc' (fun j hj => by
              have hrow : rs[j]? = some (eS ys[j]) := by rw [← hrs, List.getElem?_map, List.getElem?_eq_getElem hj]; rfl
              have h1 := hcl j _ hrow 0 (.v (.string ys[j])) rfl
              have h2 := hdr j _ hrow 0 (.v (.string ys[j])) rfl
              have h3 : u2 j 0 = .string ys[j] := by
                revert h2
                generalize u2 j 0 = z
                intro h2
                cases h2; rfl
              rw [Nat.mul_one, Nat.add_zero] at h1
              rw [h1, h3, List.getElem?_map, List.getElem?_eq_getElem hj]
              show some (Value.string ys[j]) = some (Value.string (lb (bl ys[j])))
              rw [lb_bl]) h0
            refine this.mono ?_
            rintro e W' ⟨he, zs, hz, hj⟩
            exact ⟨he, _, hz.trans (map_bl_range ys), hj⟩
      have hC := collB L Fence.wide 5 trivial trivial rfl (by omega) g #[.pointer (some ⟨b, 0, none⟩)] trivial eg _ xs.length (by unfold maxLen; omega) (by omega) w hseq
      rw [hf] at hC
      refine (callsIn_wide.1 hC).mono ?_
      rintro e w' ⟨v, ss, rfl, rfl, hrow, hnil, hB⟩
      refine ⟨v, rfl, ?_⟩
      have updG : upd (hp [some (.box [.d (.sl (xs.map eS))])]) 1 (some (.arr 0 1 (xs.map eS))) = hp [some (.box [.d (.sl (xs.map eS))]), some (.arr 0 1 (xs.map eS))] := by
        funext j
        match j with
        | 0 => simp [upd, hp]
        | 1 => simp [upd, hp]
        | j + 2 => simp [upd, hp]
      have hφ1 : φ 1 = none := by
        cases h1 : φ 1 with
        | none => rfl
        | some x => have := hr.dom 1 x h1; simp [hp] at this
      rcases hrow.2 with ⟨rfl, hz⟩ | ⟨gb, cap, cur, rfl, hbase, hgb, r1, r2, r3, r4⟩
      · have hxs : xs = [] := by
          have := hnil.1 rfl
          simpa using this
        subst hxs
        have := hr.update 1 none (.arr 0 1 (([] : List ByteArray).map eS)) w' hB.size ⟨hB.os, hB.output⟩ (fun c hc _ => hB.block c hc) (fun c oc hc => by cases hc) trivial (fun _ => .inl ⟨by simp, rfl⟩)
        rw [updG] at this
        refine ⟨_, F, ?_, this.1, this.2.1, this.2.2⟩
        exact ⟨0, 1, _, rfl, Nat.le_refl _, _, _, _, rfl, fun _ => ⟨rfl, Nat.le_refl _, by simp, by simp, .inl rfl⟩⟩
      · have hlen : (xs.map bl).length = xs.length := List.length_map _
        have := hr.update 1 (some (gb, 0)) (.arr 0 1 (xs.map eS)) w' hB.size ⟨hB.os, hB.output⟩ (fun c hc _ => hB.block c hc) (fun c oc hc => by cases hc; exact .inr hbase) trivial (fun _ => by
          refine .inr ⟨gb, 0, cur, _, by simp, hgb, ?_, ?_, ?_⟩
          · simp only [List.length_map] at *; omega
          · intro row hrow
            obtain ⟨y, _, rfl⟩ := List.mem_map.1 hrow; rfl
          · intro i row hi j d hj
            rw [List.getElem?_map, Option.map_eq_some_iff] at hi
            obtain ⟨y, hy', rfl⟩ := hi
            cases j with
            | succ j => simp [eS] at hj
            | zero =>
              simp only [eS, List.getElem?_cons_zero, Option.some.injEq] at hj
              subst hj
              refine ⟨.string y, ?_, .v _ rfl⟩
              have hi2 := (List.getElem?_eq_some_iff.1 hy').1
              have h2 : (cur.toList.take ((xs.map bl).length * 1))[i]? = some (.string y) := by
                rw [r4, List.map_map, List.getElem?_map, hy']
                show some (Value.string (lb (bl y))) = _
                rw [lb_bl]
              rw [List.getElem?_take_of_lt (by rw [hlen]; omega)] at h2
              simpa using h2)
        rw [updG] at this
        refine ⟨_, F, ?_, this.1, this.2.1, this.2.2⟩
        refine ⟨0, 1, _, rfl, Nat.le_refl _, _, _, _, rfl, fun _ => ⟨hlen, by rw [← hlen]; exact r1, by simp, by simp, .inr ⟨gb, 0, cur.size, by simp, by simp, ?_, ?_⟩⟩⟩
        · simp [bsize, hgb]
        · rw [r3]; omega
  · cases h
end Go.Fw

namespace Go.Fw
open Go.RowKit Go.Maps Go.Sort Go.Shelf Go.Proofs Go.MapKept
open Go.WideElems (Fit rd rg)

/-! slices.Sorted of maps.Keys at strings. -/

/-- How an element of a map is read: as nothing. -/
def Rn (_ : Value) : Option (DataW Unit × List MemPlace) := some (.lit (.bool false), [])
def keysI (ks : List ByteArray) : Option (List ByteArray) := if ks.length ≤ 4294967290 ∧ (∀ k ∈ ks, k.size ≤ 4294967290) then some (sortL ks) else none

theorem rg_str {P : Program} {k : TypeId} (hk : P.underlying k = some .string) {x : MapEntry} {s : ByteArray} (hx : x.key = .string s) (hs : s.size ≤ 4294967290) :
    rd P k Rn x = some (.string s.data.toList, .lit (.bool false)) := by
  have h1 : keyOf P k x.key = some (.string s.data.toList) := by
    simp only [keyOf, hk, hx, mapKey]
    simp; unfold maxLen; omega
  rw [rd.eq_1, h1]
  rfl
theorem map_owned {φ : Phi} {F : Nat → Prop} {G : Heap} {w : World} {P : Program} {k : TypeId} (hk : P.underlying k = some .string) {id b : Nat} {ents : List (Value × A1)} (hφ : φ id = some (b, 0)) (hB : BRep φ F G w id (.map ents)) {ks : List ByteArray} (he : ents.map Prod.fst = ks.map Value.string) (hl : ks.length ≤ 4294967290) (hs : ∀ k ∈ ks, k.size ≤ 4294967290) :
    ∃ D0 : DataW Unit, w.ownsMap P k Rn b ks.length D0 ∧ (strKeys D0).Perm (ks.map bl) ∧ Maps.size D0 = ks.length := by
  obtain ⟨b', es, clock, h1, h2, h4, h3⟩ := hB
  rw [hφ] at h1
  simp only [Option.some.injEq, Prod.mk.injEq] at h1
  obtain ⟨rfl, _⟩ := h1
  have hkeys : es.toList.map (·.key) = ks.map Value.string := by
    rw [← he]
    clear he h2 h4
    generalize es.toList = l at h3
    induction h3 with
    | nil => rfl
    | cons hx _ ih => rw [List.map_cons, List.map_cons, ih, hx.1]
  have hsz : es.size = ks.length := by
    have := congrArg List.length hkeys
    simpa using this
  have each : ∀ x ∈ es.toList, ∃ s, s ∈ ks ∧ x.key = .string s := by
    intro x hx
    have : x.key ∈ es.toList.map (·.key) := List.mem_map.2 ⟨x, hx, rfl⟩
    rw [hkeys] at this
    obtain ⟨s, hs1, hs2⟩ := List.mem_map.1 this
    exact ⟨s, hs1, hs2.symm⟩
  have reads : ∀ x ∈ es.toList, ∃ y, rd P k Rn x = some y := by
    intro x hx
    obtain ⟨s, hs1, hs2⟩ := each x hx
    exact ⟨_, rg_str hk hs2 (hs s hs1)⟩
  have hrg : (es.toList.map (rg P k Rn)).map (fun p => strOf p.1) = ks.map bl := by
    have : ∀ (l : List MapEntry) (qs : List ByteArray), l.map (·.key) = qs.map Value.string → (∀ q ∈ qs, q.size ≤ 4294967290) → (l.map (rg P k Rn)).map (fun p => strOf p.1) = qs.map bl := by
      intro l
      induction l with
      | nil => intro qs hq _; cases qs with
        | nil => rfl
        | cons q qs => simp at hq
      | cons x l ih =>
        intro qs hq hs'
        cases qs with
        | nil => simp at hq
        | cons q qs =>
          simp only [List.map_cons, List.cons.injEq] at hq ⊢
          refine ⟨?_, ih qs hq.2 fun z hz => hs' z (List.mem_cons_of_mem _ hz)⟩
          unfold rg
          rw [rg_str hk hq.1 (hs' q (List.mem_cons_self ..))]
          rfl
    exact this _ _ hkeys hs
  refine ⟨.map ((es.toList.map (rg P k Rn)).foldr DataW.insert []), ⟨es, clock, h2, ⟨by rw [hsz]; unfold maxLen; omega, h4, reads⟩, by omega, rfl⟩, ?_, ?_⟩
  · show (((es.toList.map (rg P k Rn)).foldr DataW.insert []).map fun p => strOf p.1).Perm _
    have hp := (Go.WideShapes.sorted_perm (es.toList.map (rg P k Rn))).map fun p => strOf p.1
    rw [hrg] at hp; exact hp
  · show ((es.toList.map (rg P k Rn)).foldr DataW.insert []).length = _
    rw [(Go.WideShapes.sorted_perm (es.toList.map (rg P k Rn))).length_eq]
    simp [hsz]

theorem L_sortedKeys {P : Program} {f g : FuncId} {ρ ρ2 ρ3 : Ren} (L : SlLaysZ.n6 P ρ) (L2 : SlLaysZ.n10 P ρ2) (L3 : Lays.n190 P ρ3) (hf : ρ.f 6 = f) (hok : okFn P f = true) (hg : ρ2.f 10 = g) (h9 : ρ3.f 190 = ρ.f 9)
    (e9 : ∀ args w, (callFunc (ρ.f 9) args).run P w = .ok (.enter (ρ.f 9) args) w) (eg : ∀ args w, (callFunc g args).run P w = .ok (.enter g args) w)
    {ents : List (Value × A1)} {ks r : List ByteArray} (he : ents.map Prod.fst = ks.map Value.string) (h : keysI ks = some r) :
    CallD P f [.c (.fn g [(0, 0)])] [some (.box [.mref 1]), some (.map ents)] (tupV [.c (.own 2 0 0 r.length none)]) [some (.box [.mref 1]), some (.map ents), some (.arr 0 1 (r.map eS))] := by
  unfold keysI at h
  split at h
  · rename_i hl
    cases h
    intro φ F w vs hr hA
    cases hA with
    | cons hv hA =>
      cases hA
      obtain ⟨us, rfl, hul, hus⟩ := hv
      obtain ⟨cells, b, o, hG, hφ, hu0⟩ := hus 0 (0, 0) rfl
      cases hG
      obtain ⟨b', cs, T, hφ', hblk, hcs⟩ := hr.blk 0 _ rfl
      rw [hφ] at hφ'
      simp only [Option.some.injEq, Prod.mk.injEq] at hφ'
      obtain ⟨rfl, rfl⟩ := hφ'
      have husl : us = [.pointer (some ⟨b, 0, none⟩)] := by
        match us, hul, hu0 with
        | [u], _, hu0 => simpa using hu0
      subst husl
      have hlt : b < w.heap.size := hr.lt hφ
      obtain ⟨mb, hcsl, hmφ⟩ : ∃ mb, cs.toList = [.map (some mb)] ∧ φ 1 = some (mb, 0) := by
        revert hcs
        generalize cs.toList = cl
        intro hcs
        cases hcs with
        | cons h1 h2 =>
          cases h2
          obtain ⟨_, mb, _, hm, rfl⟩ := h1
          exact ⟨mb, rfl, hm⟩
      have hcell : w.cell? ⟨b, 0, none⟩ = some (.map (some mb)) := by
        rw [cell?_of_heap hblk]
        have : cs = #[.map (some mb)] := by cases cs; simp at hcsl; simp [hcsl]
        rw [this]; rfl
      obtain ⟨D0, hown, hperm, hsize⟩ := map_owned L2.t26 hmφ (hr.blk 1 _ rfl) he hl.1 hl.2
      refine .inl ⟨hok, ?_⟩
      have hseq := AnyZ.keys_gives L2 Fence.wide (6 - 1 - 1 - 1) trivial rfl (by omega) b mb ks.length D0 w hlt hcell hown
      rw [hg] at hseq
      have hsort : AnyZ.SortsIn P ρ Fence.wide (6 - 1) := by
        refine ⟨fun blk off cap ss W hh hb hn => callsIn_wide.2 ?_, fun p cap W => callsIn_wide.2 ?_⟩
        · have := Any.slices_Sort_string L3 blk off cap ss W hh hb hn
          rw [h9] at this; exact this
        · have := Any.slices_Sort_string_none L3 p cap W
          rw [h9] at this; exact this
      have hC := AnyZ.sorted_in L Fence.wide 6 trivial trivial trivial trivial rfl (by omega) hsort e9 g #[.pointer (some ⟨b, 0, none⟩)] trivial eg _ (Maps.size D0) (by rw [hsize]; unfold maxLen; omega) (by rw [hsize]; omega) w hseq
      rw [hf] at hC
      refine (callsIn_wide.1 hC).mono ?_
      rintro e w' ⟨v, ss, rfl, hS, hrow, hnil, hB⟩
      refine ⟨v, rfl, ?_⟩
      have hss : (ss.mergeSort fun x y => decide (x ≤ y)) = (sortL ks).map bl := by
        have := mergeSort_of_perm (hS.trans hperm)
        show ss.mergeSort leB = _
        rw [this, sortL_eq, List.map_map]
        have : (bl ∘ lb) = id := funext bl_lb
        rw [this, List.map_id]
      have hlen0 : ss.length = (sortL ks).length := by
        have := congrArg List.length hss
        simpa using this
      rw [hss, hlen0] at hrow
      have hnil' : v = .slice none 0 0 → sortL ks = [] := fun hv => by
        have := hnil.1 hv
        subst this
        exact List.length_eq_zero_iff.1 hlen0.symm
      clear hss hnil hS hlen0
      generalize sortL ks = xs at hrow hnil' ⊢
      have updG : upd (hp [some (.box [.mref 1]), some (.map ents)]) 2 (some (.arr 0 1 (xs.map eS))) = hp [some (.box [.mref 1]), some (.map ents), some (.arr 0 1 (xs.map eS))] := by
        funext j
        match j with
        | 0 => simp [upd, hp]
        | 1 => simp [upd, hp]
        | 2 => simp [upd, hp]
        | j + 3 => simp [upd, hp]
      have hφ2 : φ 2 = none := by
        cases h1 : φ 2 with
        | none => rfl
        | some x => have := hr.dom 2 x h1; simp [hp] at this
      rcases hrow.2 with ⟨rfl, hz⟩ | ⟨gb, cap, cur, rfl, hbase, hgb, r1, r2, r3, r4⟩
      · have hxs : xs = [] := hnil' rfl
        subst hxs
        have := hr.update 2 none (.arr 0 1 (([] : List ByteArray).map eS)) w' hB.size ⟨hB.os, hB.output⟩ (fun c hc _ => hB.block c hc) (fun c oc hc => by cases hc) trivial (fun _ => .inl ⟨by simp, rfl⟩)
        rw [updG] at this
        refine ⟨_, F, ?_, this.1, this.2.1, this.2.2⟩
        exact ⟨0, 1, _, rfl, Nat.le_refl _, _, _, _, rfl, fun _ => ⟨rfl, Nat.le_refl _, by simp, by simp, .inl rfl⟩⟩
      · have hlen : (xs.map bl).length = xs.length := List.length_map _
        have := hr.update 2 (some (gb, 0)) (.arr 0 1 (xs.map eS)) w' hB.size ⟨hB.os, hB.output⟩ (fun c hc _ => hB.block c hc) (fun c oc hc => by cases hc; exact .inr hbase) trivial (fun _ => by
          refine .inr ⟨gb, 0, cur, _, by simp, hgb, ?_, ?_, ?_⟩
          · simp only [List.length_map] at *; omega
          · intro row hrow
            obtain ⟨y, _, rfl⟩ := List.mem_map.1 hrow; rfl
          · intro i row hi j d hj
            rw [List.getElem?_map, Option.map_eq_some_iff] at hi
            obtain ⟨y, hy', rfl⟩ := hi
            cases j with
            | succ j => simp [eS] at hj
            | zero =>
              simp only [eS, List.getElem?_cons_zero, Option.some.injEq] at hj
              subst hj
              refine ⟨.string y, ?_, .v _ rfl⟩
              have hi2 := (List.getElem?_eq_some_iff.1 hy').1
              have h2 : (cur.toList.take (xs.length * 1))[i]? = some (.string y) := by
                rw [r4, List.map_map, List.getElem?_map, hy']
                show some (Value.string (lb (bl y))) = _
                rw [lb_bl]
              rw [List.getElem?_take_of_lt (by omega)] at h2
              simpa using h2)
        rw [updG] at this
        refine ⟨_, F, ?_, this.1, this.2.1, this.2.2⟩
        refine ⟨0, 1, _, rfl, Nat.le_refl _, _, _, _, rfl, fun _ => ⟨rfl, r1, by simp, by simp, .inr ⟨gb, 0, cur.size, by simp, by simp, ?_, ?_⟩⟩⟩
        · simp [bsize, hgb]
        · rw [r3]; omega
  · cases h
end Go.Fw
