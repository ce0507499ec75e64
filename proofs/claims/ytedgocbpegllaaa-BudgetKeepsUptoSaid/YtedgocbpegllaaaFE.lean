/- Contracts of slices.Clone, slices.Insert, slices.Delete, and of the compare of strings. -/
import Derived.Test.YtedgocbpegllaaaFP
import Derived.Lib.Bytealg
import Derived.Laws.Externs
import Derived.Shelf.Sort.Plain
import Derived.Shelf.Slices.In.SortNone
import Derived.Shelf.Slices.CompactS
import Derived.Lib.RowBridge
set_option linter.unusedVariables false
set_option linter.unusedSimpArgs false
set_option linter.unusedSectionVars false
namespace Go.Fw
set_option maxRecDepth 100000
set_option maxHeartbeats 4000000
def C0:=PLift.up (And.intro (And.intro (And.intro (And.intro @envH_nil (And.intro @WrOk_nil @WrOk_lone)) (And.intro @nb_true (And.intro @nb_false @nb_dec))) (And.intro (And.intro @apply_some (And.intro @apply_none @apply_skip)) (And.intro @putSlot_some (And.intro @putSlot_none @setB.eq_1)))) (And.intro (And.intro (And.intro @argSlots.eq_1 (And.intro @argSlots.eq_2 @St.ev.eq_1)) (And.intro @St.ev.eq_2 (And.intro @St.ev.eq_3 @St.evC.eq_1))) (And.intro (And.intro @St.evV.eq_1 (And.intro @lk.eq_1 @lk.eq_2)) (And.intro @wrs.eq_1 (And.intro @wrs.eq_2 @allW.eq_1)))))
def C1:=PLift.up (And.intro (And.intro (And.intro (And.intro @allW.eq_2 (And.intro @ret.eq_1 @retV.eq_1)) (And.intro @evL.eq_1 (And.intro @evL.eq_2 @capL.eq_1))) (And.intro (And.intro @capL.eq_2 (And.intro @intV.eq_1 @intV.eq_2)) (And.intro @bldL.eq_1 (And.intro @bldL.eq_2 @frzL.eq_1)))) (And.intro (And.intro (And.intro @frzL.eq_2 (And.intro @frzL.eq_3 @frzRL.eq_1)) (And.intro @frzRL.eq_2 (And.intro @rowsL.eq_1 @rowsL.eq_2))) (And.intro (And.intro @rowsL.eq_3 (And.intro @kSt.eq_1 @if_true.{1})) (And.intro @if_true.{0} (And.intro @if_false.{1} @if_false.{0})))))
def C2:=PLift.up (And.intro (And.intro (And.intro (And.intro @binK.eq_1 (And.intro @binK.eq_2 @binK.eq_3)) (And.intro @binK.eq_4 (And.intro @binK.eq_5 @binK.eq_6))) (And.intro (And.intro @binK.eq_7 (And.intro @binK.eq_8 @binK.eq_9)) (And.intro @binK.eq_10 (And.intro @binK.eq_11 @binK.eq_12)))) (And.intro (And.intro (And.intro @binK.eq_13 (And.intro @binK.eq_14 @binK.eq_15)) (And.intro @binK.eq_16 (And.intro @binK.eq_18 @binK.eq_19))) (And.intro (And.intro @binK.eq_20 (And.intro @binK.eq_21 @binK.eq_22)) (And.intro @binK.eq_23 (And.intro @binK.eq_24 @true_and)))))
def C3:=PLift.up (And.intro (And.intro (And.intro (And.intro @and_true (And.intro @decide_eq_true_eq @decide_eq_false_iff_not)) (And.intro @List.length_map.{0,0} (And.intro @Int.toNat_natCast @ldC.eq_1))) (And.intro (And.intro @ldC.eq_2 (And.intro @ldC.eq_3 @List.map_cons.{0,0})) (And.intro @List.map_nil.{0,0} (And.intro @List.length_cons.{0} @List.length_nil.{0})))) (And.intro (And.intro (And.intro @List.take_succ_cons.{0} (And.intro @List.take_zero.{0} @A1.cells.eq_1)) (And.intro @A1.cells.eq_2 (And.intro @hset.eq_1 @hset.eq_2))) (And.intro (And.intro @hset.eq_3 (And.intro @hset.eq_4 @hp.eq_1)) (And.intro @splice.eq_1 (And.intro @List.getElem?_cons_zero.{0} @List.getElem?_cons_succ.{0})))))
def C4:=PLift.up (And.intro (And.intro (And.intro (And.intro @Option.join_some.{0} (And.intro @List.drop_succ_cons.{0} @List.drop_zero.{0})) (And.intro @Nat.zero_add (And.intro @List.nil_append.{0} @List.cons_append.{0}))) (And.intro (And.intro @List.append_nil.{0} (And.intro @List.drop_nil.{0} @Nat.le_refl)) (And.intro @clipC.eq_1 (And.intro @eqCells.eq_1 @eqCells.eq_2)))) (And.intro (And.intro (And.intro @eqCell.eq_1 (And.intro @eqCell.eq_2 @eqCell.eq_3)) (And.intro @eqB_t (And.intro @eqB_f @dec_and))) (And.intro (And.intro @and_t (And.intro @NilK_f @NilK_t)) (And.intro @resS.eq_1 (And.intro @resS.eq_2 @resS.eq_3)))))
def C5:=PLift.up (And.intro (And.intro (And.intro (And.intro @List.isEmpty_iff.{0} (And.intro @cast1 @cast0)) (And.intro @toNat0 (And.intro @toNat1 @s1_mv))) (And.intro (And.intro sS_mv.down (And.intro @s1_pick sS_pick.down)) (And.intro @s1_box (And.intro sS_box.down @s1_zbox)))) (And.intro (And.intro (And.intro sS_zbox.down (And.intro @s1_build sS_build.down)) (And.intro @s1_bslice (And.intro sS_bslice.down @s1_load))) (And.intro (And.intro sS_load.down (And.intro @s1_store sS_store.down)) (And.intro @s1_fieldA (And.intro sS_fieldA.down @s1_field)))))
def C6:=PLift.up (And.intro (And.intro (And.intro (And.intro sS_field.down (And.intro @s1_indexA sS_indexA.down)) (And.intro @s1_sidx (And.intro sS_sidx.down @s1_slice))) (And.intro (And.intro sS_slice.down (And.intro @s1_sslice sS_sslice.down)) (And.intro @s1_fn (And.intro sS_fn.down @s1_app)))) (And.intro (And.intro (And.intro sS_app.down (And.intro @s1_appz sS_appz.down)) (And.intro @s1_copy (And.intro sS_copy.down @s1_clear))) (And.intro (And.intro sS_clear.down (And.intro @s1_mk sS_mk.down)) (And.intro @s1_call (And.intro sS_call.down @s1_callv)))))
def C7:=PLift.up (And.intro (And.intro (And.intro (And.intro sS_callv.down (And.intro @s1_ext sS_ext.down)) (And.intro @s1_len (And.intro sS_len.down @s1_slen))) (And.intro (And.intro sS_slen.down (And.intro @s1_cap sS_cap.down)) (And.intro @s1_bin (And.intro sS_bin.down @s1_eqnil)))) (And.intro (And.intro (And.intro @s1_not (And.intro sS_not.down @s1_beq)) (And.intro sS_beq.down (And.intro @s1_neg sS_neg.down))) (And.intro (And.intro @s1_max (And.intro sS_max.down @s1_min)) (And.intro sS_min.down (And.intro @s1_mins sS_mins.down)))))
def C8:=PLift.up (And.intro (And.intro (And.intro (And.intro @minL.eq_1 (And.intro @minL.eq_2 @s1_conv)) (And.intro sS_conv.down (And.intro @s1_istr sS_istr.down))) (And.intro (And.intro @s1_eqs (And.intro sS_eqs.down @sS_eqnil)) (And.intro @qkOps_eq (And.intro @qvcOps_nil @qvcOps_none)))) (And.intro (And.intro (And.intro @qvcOps_some (And.intro @qgOps_11 @qgOps_00)) (And.intro @qgOps_10 (And.intro @qgOps_01 @qkD_nil))) (And.intro (And.intro @qvcD_nil (And.intro @qvcD_none @qvcD_some)) (And.intro @qgD_11 (And.intro @qgD_00 @qgD_10)))))
def C9:=PLift.up (And.intro (And.intro (And.intro (And.intro @qgD_01 (And.intro @qPickK_1 @qPickK_0)) (And.intro @qvc_skip (And.intro @qvc_reg @qvc_regd))) (And.intro (And.intro @qvc_seq (And.intro @qvc_block @qvc_loop)) (And.intro @qvc_sem (And.intro @qvc_exit @qvc_ret)))) (And.intro (And.intro (And.intro @qvc_cond (And.intro @qcnd_1 @qcnd_0)) (And.intro @qnrmK_seq (And.intro @qnrmK_blk @qnrmK_nil))) (And.intro (And.intro @qunw_exit_seq (And.intro @qunw_exit_blk @qunw_exit_nil)) (And.intro @qunw_ret_seq (And.intro @qunw_ret_blk @qunw_ret_nil)))))
def C10:=PLift.up (And.intro (And.intro (And.intro (And.intro @qloopQ_exit @qloopQ_ret) (And.intro @qE_ret @qE_norm)) (And.intro (And.intro @qkD_lone @skipOut.eq_1) (And.intro @ap_nil (And.intro @ap_cons @apS_own)))) (And.intro (And.intro (And.intro @apS_pt @apS_pe) (And.intro @apS_d (And.intro @apS_fp @apS_fn))) (And.intro (And.intro @wa_nil @wa_cons) (And.intro @Bool.and_true (And.intro @Bool.true_and @Bool.not_false)))))
def CC:=PLift.up (And.intro (And.intro (And.intro C0.down C1.down) (And.intro C2.down (And.intro C3.down C4.down))) (And.intro (And.intro C5.down (And.intro C6.down C7.down)) (And.intro C8.down (And.intro C9.down C10.down))))
def cloneA(sz bt:Nat):AFn:=⟨8,[(.tmp 2)],
 (.seq (.reg [⟨(some 2),none,.mv kN,[],(.new [])⟩])
 (.seq (.seq (.reg [⟨(some 3),none,.mv (.t 0),[],(.new [])⟩,
   ⟨(some 4),none,.eqnil false (.t 3),[],(.lone [])⟩])
 (.cond (.t 4)
 (.seq (.reg [⟨(some 2),none,.mv kN,[],(.new [])⟩])
 .ret)
 .skip))
 (.seq (.reg [⟨(some 5),none,.bslice sz [],[],(.new [])⟩,
   ⟨(some 6),none,.mv (.t 0),[],(.new [])⟩,
   ⟨(some 7),none,.app sz bt (.t 5) (.t 6),[],(.new [])⟩,
   ⟨(some 2),none,.mv (.t 7),[],(.new [])⟩])
 .ret)))⟩
def insertA(sz bt:Nat)(z:List D)(g:FuncId)(rr:FuncId):AFn:=⟨95,[(.tmp 6)],
 (.seq (.reg [⟨(some 6),none,.mv kN,[],(.new [])⟩])
 (.seq (.reg [⟨(some 10),none,.mv (.t 0),[],(.new [])⟩,
   ⟨(some 11),none,.mv (.t 1),[],(.new [])⟩,
   ⟨(some 12),none,.slice sz (.t 10) (some (.t 11)) none none,[],(.new [])⟩])
 (.seq (.reg [⟨(some 13),none,.mv (.t 2),[],(.new [])⟩,
   ⟨(some 14),none,.len (.t 13),[],(.new [])⟩,
   ⟨(some 7),none,.mv (.t 14),[],(.new [])⟩])
 (.seq (.seq (.reg [⟨(some 15),none,.mv (.t 7),[],(.new [])⟩,
   ⟨(some 16),none,.bin .eql (.t 15) (kI 0),[],(.new [])⟩])
 (.cond (.t 16)
 (.seq (.reg [⟨(some 17),none,.mv (.t 0),[],(.new [])⟩,
   ⟨(some 6),none,.mv (.t 17),[],(.new [])⟩])
 .ret)
 .skip))
 (.seq (.reg [⟨(some 18),none,.mv (.t 0),[],(.new [])⟩,
   ⟨(some 19),none,.len (.t 18),[],(.new [])⟩,
   ⟨(some 8),none,.mv (.t 19),[],(.new [])⟩])
 (.seq (.seq (.reg [⟨(some 20),none,.mv (.t 1),[],(.new [])⟩,
   ⟨(some 21),none,.mv (.t 8),[],(.new [])⟩,
   ⟨(some 22),none,.bin .eql (.t 20) (.t 21),[],(.new [])⟩])
 (.cond (.t 22)
 (.seq (.reg [⟨(some 23),none,.mv (.t 0),[],(.new [])⟩,
   ⟨(some 24),none,.mv (.t 2),[],(.new [])⟩,
   ⟨(some 25),none,.app sz bt (.t 23) (.t 24),[],(.new [])⟩,
   ⟨(some 6),none,.mv (.t 25),[],(.new [])⟩])
 .ret)
 .skip))
 (.seq (.seq (.reg [⟨(some 26),none,.mv (.t 8),[],(.new [])⟩,
   ⟨(some 27),none,.mv (.t 7),[],(.new [])⟩,
   ⟨(some 28),none,.bin .add (.t 26) (.t 27),[],(.new [])⟩,
   ⟨(some 29),none,.mv (.t 0),[],(.new [])⟩,
   ⟨(some 30),none,.cap (.t 29),[],(.new [])⟩,
   ⟨(some 31),none,.bin .gtr (.t 28) (.t 30),[],(.new [])⟩])
 (.cond (.t 31)
 (.seq (.reg [⟨(some 32),none,.mv (.t 0),[],(.new [])⟩,
   ⟨(some 33),none,.mv (.t 1),[],(.new [])⟩,
   ⟨(some 34),none,.slice sz (.t 32) none (some (.t 33)) none,[],(.new [])⟩,
   ⟨(some 35),none,.mv (.t 8),[],(.new [])⟩,
   ⟨(some 36),none,.mv (.t 7),[],(.new [])⟩,
   ⟨(some 37),none,.bin .add (.t 35) (.t 36),[],(.new [])⟩,
   ⟨(some 38),none,.mv (.t 1),[],(.new [])⟩,
   ⟨(some 39),none,.bin .sub (.t 37) (.t 38),[],(.new [])⟩,
   ⟨(some 40),none,.appz sz bt z (.t 34) (.t 39),[],(.new [])⟩,
   ⟨(some 9),none,.mv (.t 40),[],(.new [])⟩])
 (.seq (.reg [⟨(some 41),none,.mv (.t 9),[],(.new [])⟩,
   ⟨(some 42),none,.mv (.t 1),[],(.new [])⟩,
   ⟨(some 43),none,.slice sz (.t 41) (some (.t 42)) none none,[],(.new [])⟩,
   ⟨(some 44),none,.mv (.t 2),[],(.new [])⟩,
   ⟨(some 45),none,.copy sz (.t 43) (.t 44),[],(.lone [41])⟩])
 (.seq (.regd [⟨(some 46),none,.mv (.t 9),[],(.new [])⟩,
   ⟨(some 47),none,.mv (.t 1),[],(.new [])⟩,
   ⟨(some 48),none,.mv (.t 7),[],(.new [])⟩,
   ⟨(some 49),none,.bin .add (.t 47) (.t 48),[1,2],(.new [])⟩,
   ⟨(some 50),none,.slice sz (.t 46) (some (.t 49)) none none,[0,1,2,3],(.new [])⟩,
   ⟨(some 51),none,.mv (.t 0),[],(.new [])⟩,
   ⟨(some 52),none,.mv (.t 1),[],(.new [])⟩,
   ⟨(some 53),none,.slice sz (.t 51) (some (.t 52)) none none,[5,6],(.new [])⟩,
   ⟨(some 54),none,.copy sz (.t 50) (.t 53),[0,1,2,3,4,5,6,7],(.lone [])⟩])
 (.seq (.reg [⟨(some 55),none,.mv (.t 9),[],(.new [])⟩,
   ⟨(some 6),none,.mv (.t 55),[],(.new [])⟩])
 .ret))))
 .skip))
 (.seq (.reg [⟨(some 56),none,.mv (.t 0),[],(.new [])⟩,
   ⟨(some 57),none,.mv (.t 8),[],(.new [])⟩,
   ⟨(some 58),none,.mv (.t 7),[],(.new [])⟩,
   ⟨(some 59),none,.bin .add (.t 57) (.t 58),[],(.new [])⟩,
   ⟨(some 60),none,.slice sz (.t 56) none (some (.t 59)) none,[],(.new [])⟩,
   ⟨(some 0),none,.mv (.t 60),[],(.new [])⟩])
 (.seq (.seq (.reg [⟨(some 61),none,.mv (.t 2),[],(.new [])⟩,
   ⟨(some 62),none,.mv (.t 0),[],(.new [])⟩,
   ⟨(some 63),none,.mv (.t 1),[],(.new [])⟩,
   ⟨(some 64),none,.mv (.t 7),[],(.new [])⟩,
   ⟨(some 65),none,.bin .add (.t 63) (.t 64),[],(.new [])⟩,
   ⟨(some 66),none,.slice sz (.t 62) (some (.t 65)) none none,[],(.new [])⟩,
   ⟨(some 67),none,.call g [(.t 61),(.t 66)],[],(.new [])⟩,
   ⟨(some 68),none,.not (.t 67),[],(.new [])⟩])
 (.cond (.t 68)
 (.seq (.regd [⟨(some 69),none,.mv (.t 0),[],(.new [])⟩,
   ⟨(some 70),none,.mv (.t 1),[],(.new [])⟩,
   ⟨(some 71),none,.mv (.t 7),[],(.new [])⟩,
   ⟨(some 72),none,.bin .add (.t 70) (.t 71),[1,2],(.new [])⟩,
   ⟨(some 73),none,.slice sz (.t 69) (some (.t 72)) none none,[0,1,2,3],(.new [])⟩,
   ⟨(some 74),none,.mv (.t 0),[],(.new [])⟩,
   ⟨(some 75),none,.mv (.t 1),[],(.new [])⟩,
   ⟨(some 76),none,.slice sz (.t 74) (some (.t 75)) none none,[5,6],(.new [])⟩,
   ⟨(some 77),none,.copy sz (.t 73) (.t 76),[0,1,2,3,4,5,6,7],(.lone [])⟩])
 (.seq (.reg [⟨(some 78),none,.mv (.t 0),[],(.new [])⟩,
   ⟨(some 79),none,.mv (.t 1),[],(.new [])⟩,
   ⟨(some 80),none,.slice sz (.t 78) (some (.t 79)) none none,[],(.new [])⟩,
   ⟨(some 81),none,.mv (.t 2),[],(.new [])⟩,
   ⟨(some 82),none,.copy sz (.t 80) (.t 81),[],(.lone [78])⟩])
 (.seq (.reg [⟨(some 83),none,.mv (.t 0),[],(.new [])⟩,
   ⟨(some 6),none,.mv (.t 83),[],(.new [])⟩])
 .ret)))
 .skip))
 (.seq (.reg [⟨(some 84),none,.mv (.t 0),[],(.new [])⟩,
   ⟨(some 85),none,.mv (.t 8),[],(.new [])⟩,
   ⟨(some 86),none,.slice sz (.t 84) (some (.t 85)) none none,[],(.new [])⟩,
   ⟨(some 87),none,.mv (.t 2),[],(.new [])⟩,
   ⟨(some 88),none,.copy sz (.t 86) (.t 87),[],(.lone [84])⟩])
 (.seq (.reg [⟨(some 89),none,.mv (.t 0),[],(.new [])⟩,
   ⟨(some 90),none,.mv (.t 1),[],(.new [])⟩,
   ⟨(some 91),none,.slice sz (.t 89) (some (.t 90)) none none,[],(.new [])⟩,
   ⟨(some 92),none,.mv (.t 7),[],(.new [])⟩,
   ⟨(some 93),none,.call rr [(.t 91),(.t 92)],[],(.lone [89])⟩])
 (.seq (.reg [⟨(some 94),none,.mv (.t 0),[],(.new [])⟩,
   ⟨(some 6),none,.mv (.t 94),[],(.new [])⟩])
 .ret))))))))))))⟩
theorem w1{n:Nat}(h:n≤4294967290):IntKind.i64.wrap ((n:Int)+1)=((n+1:Nat):Int):=wrapN (by omega)
theorem w2{n i:Nat}(h:n≤4294967290)(hi:i≤n):IntKind.i64.wrap (((n+1:Nat):Int)-i)=((n+1-i:Nat):Int):=by
 rw[wrapI (by omega) (by omega)];omega
section
variable {P:Program} {f g rr:FuncId} {sz bt:Nat} {z:List D}
theorem clone_spec(hf:afn P f=some (cloneA sz bt))(rows:List (List D))(hl:rows.length≤4294967296)(hs:RowsSz rows sz):CallD P f [aL rows] [] (.one (.c (.own 0 1 0 rows.length none))) [some (.arr 1 sz rows)]:=by
 refine callS (A:=cloneA sz bt) (res:=[.c (.own 0 1 0 rows.length none)]) hf (by simp[cloneA]) ?_
 simp only[cloneA,CC.down,app1,wr1,Nat.reduceEqDiff,reduceCtorEq,Nat.reduceAdd,Nat.reduceLeDiff,Nat.reduceLT]
 exact⟨fun h=>by subst h;exact fin_nil 1 sz,hs,hl,fin_id⟩
theorem insert_spec(hf:afn P f=some (insertA sz bt z g rr))(hov:∀(e0 e1 o0 o1 l0 l1:Nat) (c0 c1:Option Nat) (r0 r1:List (List D)),CallD P g [.c (.own 0 e0 o0 l0 c0),.c (.own 1 e1 o1 l1 c1)] [some (.arr e0 sz r0),some (.arr e1 sz r1)] (.one (aB false)) [some (.arr e0 sz r0),some (.arr e1 sz r1)])(rows:List (List D))(x:List D)(i e e' n:Nat)(hn:rows.length=n)(hi:i≤n)(hl:n≤4294967290)(hs:RowsSz rows sz)(hx:x.length=sz):
 CallD P f [.c (.own 0 e 0 n none),aI i,.c (.own 1 e' 0 1 none)] [some (.arr e sz rows),some (.arr e' sz [x])] (.one (.c (.own 0 (e+1) 0 (n+1) none))) [some (.arr (e+1) sz (rows.take i++x::rows.drop i)),some (.arr e' sz [x])]:=by
 refine CallD.cap fun c hc=>?_
 refine callS (A:=insertA sz bt z g rr) (res:=[.c (.own 0 (e+1) 0 (n+1) none)]) hf (by simp[insertA]) ?_
 have e1:=w1 hl
 have e2:=w2 hl hi
 have e3:=w1 (n:=i) (by omega)
 simp only[insertA,CC.down,app1,wr1,Nat.reduceEqDiff,reduceCtorEq,Nat.reduceAdd,Nat.reduceLeDiff,Nat.reduceLT]
 refine⟨by omega,condN (by omega) ?_⟩
 simp only[CC.down,app1,wr1,Nat.reduceEqDiff,reduceCtorEq,Nat.reduceAdd,Nat.reduceLeDiff,Nat.reduceLT]
 refine condS (fun hin=>?_) (fun hin=>?_)
 ·have hin':i=n:=by omega
  subst hin'
  simp only[CC.down,app1,wr1,Nat.reduceEqDiff,reduceCtorEq,Nat.reduceAdd,Nat.reduceLeDiff,Nat.reduceLT]
  refine⟨by omega,?_⟩
  by_cases hcc:i+1≤c
  ·refine .inl ⟨by simpa using hcc,?_⟩
   simp only[CC.down,app1,wr1,Nat.reduceEqDiff,reduceCtorEq,Nat.reduceAdd,Nat.reduceLeDiff,Nat.reduceLT]
   refine fin_re [0,1] ?_ (by decide) ?_ ?_
   ·simp[reBs,reB,hp,hn]
   ·simp[keeps,keep1]
   ·simp[reAs,reA,reC,hp]<;>omega
  ·refine .inr ⟨by simp<;>omega,by simp<;>omega,?_⟩
   simp only[CC.down,app1,wr1,Nat.reduceEqDiff,reduceCtorEq,Nat.reduceAdd,Nat.reduceLeDiff,Nat.reduceLT]
   refine fin_re [2,1] ?_ (by decide) ?_ ?_
   ·simp[reBs,reB,hp,hn]
   ·simp[keeps,keep1]
   ·simp[reAs,reA,reC,hp]<;>omega
 ·simp only[e1,e2,e3,CC.down,app1,wr1,Nat.reduceEqDiff,reduceCtorEq,Nat.reduceAdd,Nat.reduceLeDiff,Nat.reduceLT]
  have m1:i+(n+1-i)=n+1:=by omega
  have m2:min 1 (n+1-i)=1:=by omega
  have m3:min 1 (n-i)=1:=by omega
  have m4:n+1-(i+1)=n-i:=by omega
  have m5:min (n-i) (n-i)=n-i:=by omega
  have m6:(rows.drop i).length=n-i:=by simp[hn]
  have m7:(rows.drop i).take (n-i)=rows.drop i:=List.take_of_length_le (by omega)
  have m8:(rows.take i).length=i:=by simp;omega
  have m9:∀z:List D,(rows.take i++List.replicate (n+1-i) z).take i=rows.take i:=fun z=>by
   rw[List.take_append_of_le_length (by omega),List.take_take,Nat.min_self]
  have m10:∀z:List D,(rows.take i++List.replicate (n+1-i) z).drop (i+1)=List.replicate (n-i) z:=fun z=>by
   rw[List.drop_append,m8,List.drop_of_length_le (by omega)];simp;omega
  have m11:∀z:List D,(rows.take i++[x]++List.replicate (n-i) z).take (i+1)=rows.take i++[x]:=fun z=>by
   rw[List.take_append_of_le_length (by simp;omega),List.take_of_length_le (by simp;omega)]
  have m12:∀z:List D,(rows.take i++[x]++List.replicate (n-i) z).drop (i+1+(n-i))=[]:=fun z=>List.drop_of_length_le (by simp;omega)
  refine condS (fun hcap=>?_) (fun hcap=>?_)
  ·simp only[e1,e2,e3,Nat.sub_zero,CC.down,app1,wr1,Nat.reduceEqDiff,reduceCtorEq,Nat.reduceAdd,Nat.reduceLeDiff,Nat.reduceLT]
   refine⟨by omega,by omega,by omega,.inr ⟨by simp<;>omega,by simp<;>omega,?_⟩⟩
   simp only[e1,e2,e3,Nat.sub_zero,List.length_replicate,m1,m2,m4,m5,m8,m9,m10,Nat.add_sub_cancel_left,CC.down,app1,wr1,Nat.reduceEqDiff,reduceCtorEq,Nat.reduceAdd,Nat.reduceLeDiff,Nat.reduceLT]
   refine⟨by omega,by rw[List.length_append,List.length_replicate];omega,?_⟩
   simp only[e1,e2,e3,Nat.sub_zero,List.length_replicate,m1,m2,m4,m5,m6,m7,m8,m9,m10,m11,m12,Nat.add_sub_cancel_left,Nat.min_self,CC.down,app1,wr1,Nat.reduceEqDiff,reduceCtorEq,Nat.reduceAdd,Nat.reduceLeDiff,Nat.reduceLT]
   refine⟨by omega,by omega,by omega,by rw[List.length_append,List.length_append,List.length_replicate];simp;omega,?_⟩
   refine fin_re [2,1] ?_ (by decide) ?_ ?_
   ·simp[reBs,reB,hp]
   ·simp[keeps,keep1]
   ·simp[reAs,reA,reC,hp]<;>omega
  ·simp only[e1,e2,e3,Nat.sub_zero,Nat.add_sub_cancel_left,CC.down,app1,wr1,Nat.reduceEqDiff,reduceCtorEq,Nat.reduceAdd,Nat.reduceLeDiff,Nat.reduceLT]
   refine⟨by omega,by omega,?_⟩
   refine callX_arr [1,0] (hov e' e 0 (i+1) 1 _ none _ [x] rows) rfl ?_ ?_ (by decide) ?_
   ·simp[A1.live,C.live,hp]
   ·simp[inA,hp,Blk.easy]
   simp only[tailWr,Blk.ren,rn,AV.ren,A1.ren,C.ren,e1,e2,e3,Nat.sub_zero,CC.down,app1,wr1,Nat.reduceEqDiff,reduceCtorEq,Nat.reduceAdd,Nat.reduceLeDiff,Nat.reduceLT]
   refine⟨by omega,by omega,by omega,by omega,by omega,by omega,?_,?_⟩
   ·simp;omega
   ·have m13:min (n+1-i) (n-i)=n-i:=by omega
    have m14:rows.drop (i+1+(n-i))=[]:=List.drop_of_length_le (by omega)
    have m17:(rows.take (i+1)).length=i+1:=by simp;omega
    have m15:(rows.take (i+1)++rows.drop i).take i=rows.take i:=by
     rw[List.take_append_of_le_length (by omega),List.take_take];congr 1;omega
    have m16:(rows.take (i+1)++rows.drop i).drop (i+1)=rows.drop i:=by
     rw[List.drop_append,m17,List.drop_of_length_le (by omega)];simp
    simp only[m2,m4,m13,m7,m6,m5,m14,m15,m16,List.append_nil,List.take_succ_cons,List.take_zero,List.length_cons,List.length_nil,Nat.zero_add]
    refine fin_re [0,1] ?_ (by decide) ?_ ?_
    ·simp[reBs,reB,hp]
    ·simp[keeps,keep1]
    ·simp[reAs,reA,reC,hp]<;>omega
end
def cloneI{α:Type}(xs:List α):Option (List α):=if xs.length≤4294967290 then some xs else none
def insI{α:Type}(xs:List α)(i:Int)(x:α):Option (List α):=if 0≤i∧i≤xs.length∧xs.length≤4294967289 then some (xs.take i.toNat++x::xs.drop i.toNat)else none
section
variable {P:Program} {f g rr:FuncId} {sz bt:Nat} {z:List D} {α:Type} {enc:α→List D}
theorem rowsSz(hs:∀y,(enc y).length=sz)(xs:List α):RowsSz (xs.map enc) sz:=fun r hr=>by
 obtain⟨y,_,rfl⟩:=List.mem_map.1 hr;exact hs y
theorem L_clone(hf:afn P f=some (cloneA sz bt))(hs:∀y,(enc y).length=sz){xs r:List α}(h:cloneI xs=some r):CallD P f [.c (.d (.sl (xs.map enc)))] [] (tupV [.c (.own 0 1 0 r.length none)]) [some (.arr 1 sz (r.map enc))]:=by
 unfold cloneI at h
 split at h
 ·cases h
  have:=clone_spec hf (xs.map enc) (by simp;omega) (rowsSz hs xs)
  rw[List.length_map]at this
  exact this
 ·cases h
theorem L_insert(hf:afn P f=some (insertA sz bt z g rr))(hov:∀(e0 e1 o0 o1 l0 l1:Nat) (c0 c1:Option Nat) (r0 r1:List (List D)),CallD P g [.c (.own 0 e0 o0 l0 c0),.c (.own 1 e1 o1 l1 c1)] [some (.arr e0 sz r0),some (.arr e1 sz r1)] (.one (aB false)) [some (.arr e0 sz r0),some (.arr e1 sz r1)])
 (hs:∀y,(enc y).length=sz) {xs r:List α} {i:Int} {x:α} {e0 e1:Nat} (h:insI xs i x=some r):
 CallD P f [.c (.own 0 e0 0 xs.length none),aI i,.c (.own 1 e1 0 [x].length none)] [some (.arr e0 sz (xs.map enc)),some (.arr e1 sz ([x].map enc))] (tupV [.c (.own 0 (e0+1) 0 r.length none)]) [some (.arr (e0+1) sz (r.map enc)),some (.arr e1 sz ([x].map enc))]:=by
 unfold insI at h
 split at h
 ·rename_i h0
  cases h
  obtain⟨n,rfl⟩:∃n:Nat,i=n:=⟨i.toNat,by omega⟩
  have:=insert_spec hf hov (xs.map enc) (enc x) n e0 e1 xs.length (by simp) (by omega) (by omega) (rowsSz hs xs) (hs x)
  have e:(xs.take n++x::xs.drop n).length=xs.length+1:=by simp;omega
  have e2:(xs.take n++x::xs.drop n).map enc=(xs.map enc).take n++enc x::(xs.map enc).drop n:=by simp
  rw[Int.toNat_natCast,e,e2]
  exact this
 ·cases h
end
end Go.Fw
namespace Go.Fw
theorem clrL_len{α:Type}{xs:List α}{off len:Nat}{z:α}(h:off+len≤xs.length):(clrL xs off len z).length=xs.length:=by
 simp only[clrL,List.length_append,List.length_take,List.length_replicate,List.length_drop];omega
def scmp(a b:ByteArray):Int:=if lt a b then-1 else if a=b then 0 else 1
def cmpS(a b:ByteArray):Option Int:=some (scmp a b)
theorem cb_eq:∀x y:List UInt8,Lib.compareBytes x y=if Op.bytesLess x y=true then-1 else if Op.bytesLess y x=true then 1 else 0
 |[],[]=>rfl
 |[],_::_=>rfl
 |_::_,[]=>rfl
 |a::x,b::y=>by
  have ih:=cb_eq x y
  simp only[Lib.compareBytes,Op.bytesLess,Bool.or_eq_true,decide_eq_true_eq,Bool.and_eq_true,beq_iff_eq]
  by_cases h1:a<b
  ·rw[if_pos h1,if_pos (.inl h1)]
  ·by_cases h2:b<a
   ·rw[if_neg h1,if_pos h2,if_neg,if_pos (.inl h2)]
    rintro(h|⟨rfl,_⟩)
    ·exact h1 h
    ·exact h1 h2
   ·have hab:a=b:=UInt8.le_antisymm (UInt8.not_lt.1 h2) (UInt8.not_lt.1 h1)
    subst hab
    rw[if_neg h1,if_neg h1,ih]
    simp[h1]
theorem cmp_scmp(a b:ByteArray):Extern.BytealgCompare.cmp a b=scmp a b:=by
 rw[Lib.cmp_eq,cb_eq]
 have e:∀s:ByteArray,s.data.toList=s.toList:=fun s=>(ByteArray.toList_eq s).symm
 rw[e,e]
 unfold scmp
 by_cases h1:Op.bytesLess a.toList b.toList=true
 ·rw[if_pos h1,if_pos (show lt a b from h1)]
 ·rw[if_neg h1,if_neg (show¬lt a b from h1)]
  by_cases h2:Op.bytesLess b.toList a.toList=true
  ·rw[if_pos h2,if_neg]
   rintro rfl;exact h1 h2
  ·rw[if_neg h2,if_pos]
   exact lt_tri h1 h2
theorem L_cmp{P:Program}{f:FuncId}{fn:Func}(hf:P.funcs[f]? =some fn)(hname:(fn.name== "runtime.NumGoroutine")=false)(hb:fn.body.isNone=true)(hn:Extern.findNext fn=none)
 (he:Extern.find fn=some Extern.BytealgCompare.compare) {a b:ByteArray} {r:Int} (h:cmpS a b=some r):CallD P f [.c (.d (.v (.string a))),.c (.d (.v (.string b)))] [] (tupV [.c (.d (.v (.int .i64 r)))]) []:=by
 cases h
 intro φ F w vs hr hA
 cases hA with
 |cons hx hA=>
  cases hA with
  |cons hy hA=>
   cases hA
   cases hx;cases hy
   refine .inr ⟨.int .i64 (scmp a b),w,?_,φ,F,DRep.v _ rfl,hr,Stp.refl _ _ _ _,Fr.refl _ _ _⟩
   rw[run_callFunc_extern hf hname hb hn he]
   have e:(Extern.BytealgCompare.compare #[.string a,.string b]).run P w= .ok (.int .i64 (Extern.BytealgCompare.cmp a b)) w:=rfl
   rw[←cmp_scmp]
   show((Extern.BytealgCompare.compare #[.string a,.string b]).run P w).andThen _=_
   rw[e];rfl
end Go.Fw
namespace Go.Fw
open Go.Sort Go.Proofs Go.Shelf
theorem take_mapL{α β:Type}{f:α→β}{l:List α}:List.take l.length (List.map f l)=List.map f l:=by
 rw[←List.length_map f,List.take_length]
def lit{α:Type}(xs:List α):List α:=xs
def bl(b:ByteArray):List UInt8:=b.data.toList
end Go.Fw
namespace Go.Fw
structure AlOne(φ:Phi)(F:Nat→Prop)(w:World)(m:Nat)(u:Value)(sz:Nat)(rows:List (List D))(x:Option (Nat×Nat)):Prop where
 val:∃A k,u= .slice A rows.length k∧rows.length≤k∧(k=0∨∃b o n,x=some (b,o)∧A=some ⟨b,o,none⟩∧bsize w b=some n∧o+k*sz≤n)
 blk:(x=none∧rows=[])∨∃b o cs T,x=some (b,o)∧w.heap[b]? =some (.cells cs T (0,0))∧o+rows.length*sz≤cs.size∧(∀row∈rows,row.length=sz)∧
    ∀(i:Nat) row,rows[i]? =some row→∀(j:Nat) d,row[j]? =some d→∃u,cs[o+i*sz+j]? =some u∧DRep w F d u
 out:∀b o,x=some (b,o)→m≤b∧b<w.heap.size∧¬F b∧∀id o',φ id≠some (b,o')
abbrev AE:=Value×Nat×List (List D)
structure Al(φ:Phi)(F:Nat→Prop)(w:World)(m:Nat)(l:List (Option AE)):Prop where
 ex:∃xs:Nat→Option (Nat×Nat),(∀i e,l[i]? =some (some e)→AlOne φ F w m e.1 e.2.1 e.2.2 (xs i))∧
  ∀i j b o o' e e',l[i]? =some (some e)→l[j]? =some (some e')→xs i=some (b,o)→xs j=some (b,o')→i=j
theorem Al.nil(φ F w m):Al φ F w m []:=⟨⟨fun _=>none,fun i e h=>by simp at h,fun i j b o o' e e' h=>by simp at h⟩⟩
theorem AlOne.keep{φ F w m u sz rows x φ' F' w'}(h:AlOne φ F w m u sz rows x)(hf:Fr φ F w φ' F' w')(hs:∀b,F b→F' b∧w'.heap[b]? =w.heap[b]?):AlOne φ' F' w' m u sz rows x:=by
 have same:∀b o,x=some (b,o)→w'.heap[b]? =w.heap[b]? :=fun b o hx=>hf.rest b (h.out b o hx).2.1 (h.out b o hx).2.2.2
 refine⟨?_,?_,fun b o hx=>?_⟩
 ·obtain⟨A,k,h1,h2,h3⟩:=h.val
  refine⟨A,k,h1,h2,h3.imp id ?_⟩
  rintro⟨b,o,n,hx,hA,hn,hle⟩
  exact⟨b,o,n,hx,hA,(bsize_congr (same b o hx)).trans hn,hle⟩
 ·rcases h.blk with h1|⟨b,o,cs,T,h1,h2,h3,h4,h5⟩
  ·exact .inl h1
  ·refine .inr ⟨b,o,cs,T,h1,(same b o h1).trans h2,h3,h4,fun i row hi j d hj=>?_⟩
   obtain⟨u,hu,hd⟩:=h5 i row hi j d hj
   exact⟨u,hu,hd.mono hs⟩
 ·obtain⟨h1,h2,h3,h4⟩:=h.out b o hx
  refine⟨h1,Nat.lt_of_lt_of_le h2 hf.size,fun hF=>?_,fun id o' hi=>?_⟩
  ·rcases hf.frz b hF with h|⟨id,o',h⟩|h
   ·exact h3 h
   ·exact h4 _ _ h
   ·omega
  ·rcases hf.own id b o' hi with⟨i0,o0,h⟩|h
   ·exact h4 _ _ h
   ·omega
theorem Al.keep{φ F w m l φ' F' w'}(h:Al φ F w m l)(hf:Fr φ F w φ' F' w')(hs:∀b,F b→F' b∧w'.heap[b]? =w.heap[b]?):Al φ' F' w' m l:=by
 obtain⟨xs,h1,h2⟩:=h.ex
 exact⟨⟨xs,fun i e he=>(h1 i e he).keep hf hs,h2⟩⟩
theorem Al.drop{φ F w m l}(h:Al φ F w m l)(i:Nat):Al φ F w m (l.set i none):=by
 obtain⟨xs,h1,h2⟩:=h.ex
 have key:∀(j:Nat) (e:AE),(l.set i none)[j]? =some (some e)→l[j]? =some (some e):=by
  intro j e hj
  by_cases hij:i=j
  ·subst hij
   rw[List.getElem?_set]at hj
   simp only[if_true]at hj
   split at hj<;>cases hj
  ·rwa [List.getElem?_set_ne hij]at hj
 exact⟨⟨xs,fun j e hj=>h1 j e (key j e hj),fun i j b o o' e e' hi hj=>h2 i j b o o' e e' (key i e hi) (key j e' hj)⟩⟩
theorem expel{φ F G w m l id e sz rows u}(hr:Rel φ F G w)(hG:G id=some (.arr e sz rows))(hc:CRep φ F G w (.own id e 0 rows.length none) u)(hal:Al φ F w m l)(hm:∀b o,φ id=some (b,o)→m≤b):
 Rel (upd φ id none) F (upd G id (some (.arr (e+1) sz []))) w∧Stp φ F G w (upd φ id none) F (upd G id (some (.arr (e+1) sz []))) w∧
  Fr φ F w (upd φ id none) F w∧Al (upd φ id none) F w m (l++[some (u,sz,rows)]):=by
 have stp:Stp φ F G w (upd φ id none) F (upd G id (some (.arr (e+1) sz []))) w:=by
  refine⟨fun b hF=>⟨hF,rfl⟩,fun j=>?_⟩
  by_cases hj:j=id
  ·subst hj;rw[upd_same,hG];exact⟨by omega,fun he=>by omega⟩
  ·rw[upd_ne _ _ hj]
   exact BStp.same (upd_ne _ _ hj) fun b o hφ=>rfl
 have hdn:∀j b o,upd φ id none j=some (b,o)→j≠id∧φ j=some (b,o):=by
  intro j b o hj
  by_cases hjj:j=id
  ·subst hjj;rw[upd_same]at hj;cases hj
  ·rw[upd_ne _ _ hjj]at hj;exact⟨hjj,hj⟩
 have fr:Fr φ F w (upd φ id none) F w:=⟨Nat.le_refl _,fun _ _ _=>rfl,fun j b o hj=> .inl ⟨j,o,(hdn j b o hj).2⟩,fun b hF=> .inl hF,Io.refl _⟩
 refine⟨⟨fun j bl hj=>?_,fun j y hy=>?_,fun i j b o b' o' hi hj hbb=>?_,fun b hF=>⟨(hr.frz b hF).1,fun j b' o hj=>(hr.frz b hF).2 j b' o (hdn j b' o hj).2⟩⟩,stp,fr,?_⟩
 ·by_cases hj':j=id
  ·subst hj';rw[upd_same]at hj;cases hj;exact .inl ⟨upd_same _ _ _,rfl⟩
  ·rw[upd_ne _ _ hj']at hj
   exact BRep.mono stp (upd_ne _ _ hj') (fun _ _ _=>rfl) (hr.blk j bl hj)
 ·obtain⟨b,o⟩:=y
  obtain⟨h1,h2⟩:=hdn j b o hy
  rw[upd_ne _ _ h1];exact hr.dom j _ h2
 ·exact hr.inj i j b o b' o' (hdn i b o hi).2 (hdn j b' o' hj).2 hbb
 ·obtain⟨xs,h1,h2⟩:=hal.ex
  obtain⟨e',sz',rows',hg,_,A,k,c,rfl,hk⟩:=hc
  rw[hG]at hg;cases hg
  obtain⟨rfl,hlk,_,_,hor⟩:=hk rfl
  have hnew:AlOne (upd φ id none) F w m (.slice A rows.length c) sz rows (φ id):=by
   refine⟨⟨A,c,rfl,hlk,hor.imp (fun h=>h) ?_⟩,hr.blk id _ hG,fun b o hx=>⟨hm b o hx,hr.lt hx,fun hF=>(hr.frz b hF).2 id b o hx rfl,fun j o' hj=>?_⟩⟩
   ·rintro⟨b,o,n,hx,hA,hn,hle⟩
    rw[Nat.zero_mul,Nat.add_zero]at hA hle
    exact⟨b,o,n,hx,hA,hn,hle⟩
   ·obtain⟨h3,h4⟩:=hdn j b o' hj
    exact h3 (hr.inj j id b o' b o h4 hx rfl)
  have hget:∀i x,(l++[some ((Value.slice A rows.length c,sz,rows):AE)])[i]? =some (some x)→(i=l.length∧x=(.slice A rows.length c,sz,rows))∨(i≠l.length∧l[i]? =some (some x)):=by
   intro i x hi
   rw[List.getElem?_append]at hi
   split at hi
   ·exact .inr ⟨by omega,hi⟩
   ·rename_i hlt
    have:i-l.length=0:=by
     by_cases h0:i-l.length=0
     ·exact h0
     ·rw[List.getElem?_eq_none (by simp;omega)]at hi;cases hi
    rw[this]at hi
    simp only[List.getElem?_cons_zero,Option.some.injEq]at hi
    exact .inl ⟨by omega,hi.symm⟩
  refine⟨⟨fun i=>if i=l.length then φ id else xs i,fun i x hi=>?_,fun i j b o o' x y hi hj hxi hxj=>?_⟩⟩
  ·rcases hget i x hi with⟨rfl,rfl⟩|⟨hne,hi⟩
   ·simp only[if_true];exact hnew
   ·simp only[if_neg hne];exact(h1 i x hi).keep fr fun b hF=>⟨hF,rfl⟩
  ·rcases hget i x hi with⟨rfl,rfl⟩|⟨hne,hi⟩
   ·rcases hget j y hj with⟨rfl,rfl⟩|⟨hne',hj⟩
    ·rfl
    ·simp only[if_true]at hxi
     simp only[if_neg hne']at hxj
     exact(((h1 j y hj).out b o' hxj).2.2.2 id o hxi).elim
   ·simp only[if_neg hne]at hxi
    rcases hget j y hj with⟨rfl,rfl⟩|⟨hne',hj⟩
    ·simp only[if_true]at hxj
     exact(((h1 i x hi).out b o hxi).2.2.2 id o' hxj).elim
    ·simp only[if_neg hne']at hxj
     exact h2 i j b o o' x y hi hj hxi hxj
theorem adopt{φ F G w m l i u sz rows id}(hr:Rel φ F G w)(hG:G id=none)(hal:Al φ F w m l)(hi:l[i]? =some (some (u,sz,rows))):
 ∃x,Rel (upd φ id x) F (upd G id (some (.arr 0 sz rows))) w∧Stp φ F G w (upd φ id x) F (upd G id (some (.arr 0 sz rows))) w∧
  CRep (upd φ id x) F (upd G id (some (.arr 0 sz rows))) w (.own id 0 0 rows.length none) u∧Al (upd φ id x) F w m (l.set i none)∧∀b o,x=some (b,o)→m≤b:=by
 obtain⟨xs,h1,h2⟩:=hal.ex
 have ho:AlOne φ F w m u sz rows (xs i):=h1 i _ hi
 have hφ:φ id=none:=by
  cases h:φ id with
  |none=>rfl
  |some y=>have:=hr.dom id y h;rw[hG]at this;cases this
 have hnid:∀j,G j≠none→j≠id:=fun j hj e=>hj (e▸hG)
 have stp:Stp φ F G w (upd φ id (xs i)) F (upd G id (some (.arr 0 sz rows))) w:=by
  refine⟨fun b hF=>⟨hF,rfl⟩,fun j=>?_⟩
  by_cases hj:j=id
  ·subst hj;rw[hG];trivial
  ·rw[upd_ne _ _ hj];exact BStp.same (upd_ne _ _ hj) fun b o hφ=>rfl
 refine⟨xs i,⟨fun j bl hj=>?_,fun j y hy=>?_,fun j k b o b' o' hj hk hbb=>?_,fun b hF=>⟨(hr.frz b hF).1,fun j b' o hj hbb=>?_⟩⟩,stp,?_,?_,fun b o hx=>(ho.out b o hx).1⟩
 ·by_cases hj':j=id
  ·subst hj';rw[upd_same]at hj;cases hj
   rcases ho.blk with⟨g1,g2⟩|⟨b,o,cs,T,g1,g2,g3,g4,g5⟩
   ·exact .inl ⟨by rw[upd_same];exact g1,g2⟩
   ·exact .inr ⟨b,o,cs,T,by rw[upd_same];exact g1,g2,g3,g4,g5⟩
  ·rw[upd_ne _ _ hj']at hj
   exact BRep.mono stp (upd_ne _ _ hj') (fun _ _ _=>rfl) (hr.blk j bl hj)
 ·by_cases hj:j=id
  ·subst hj;simp
  ·rw[upd_ne _ _ hj]at hy⊢;exact hr.dom j y hy
 ·subst hbb
  by_cases hj':j=id<;>by_cases hk':k=id
  ·rw[hj',hk']
  ·subst hj'
   rw[upd_same]at hj;rw[upd_ne _ _ hk']at hk
   exact((ho.out b o hj).2.2.2 k o' hk).elim
  ·subst hk'
   rw[upd_same]at hk;rw[upd_ne _ _ hj']at hj
   exact((ho.out b o' hk).2.2.2 j o hj).elim
  ·rw[upd_ne _ _ hj']at hj;rw[upd_ne _ _ hk']at hk
   exact hr.inj j k b o b o' hj hk rfl
 ·subst hbb
  by_cases hj':j=id
  ·subst hj';rw[upd_same]at hj;exact(ho.out b' o hj).2.2.1 hF
  ·rw[upd_ne _ _ hj']at hj;exact(hr.frz b' hF).2 j b' o hj rfl
 ·obtain⟨A,k,rfl,hlk,hor⟩:=ho.val
  refine⟨0,sz,rows,upd_same _ _ _,Nat.le_refl _,A,rows.length,k,rfl,fun _=>⟨rfl,hlk,(fun c hc=>by cases hc),(fun _=>by omega),hor.imp (fun h=>h) ?_⟩⟩
  rintro⟨b,o,n,hx,hA,hn,hle⟩
  exact⟨b,o,n,by rw[upd_same];exact hx,by rw[Nat.zero_mul,Nat.add_zero];exact hA,hn,by rw[Nat.zero_mul,Nat.add_zero];exact hle⟩
 ·have key:∀(j:Nat) (e:AE),(l.set i none)[j]? =some (some e)→j≠i∧l[j]? =some (some e):=by
   intro j e hj
   by_cases hij:i=j
   ·subst hij
    rw[List.getElem?_set]at hj
    simp only[if_true]at hj
    split at hj<;>cases hj
   ·rw[List.getElem?_set_ne hij]at hj;exact⟨fun e=>hij e.symm,hj⟩
  refine⟨⟨xs,fun j e hj=>?_,fun j k b o o' e e' hj hk=>h2 j k b o o' e e' (key j e hj).2 (key k e' hk).2⟩⟩
  obtain⟨hji,hj⟩:=key j e hj
  have hjo:=h1 j e hj
  refine⟨hjo.val,hjo.blk,fun b o hx=>?_⟩
  obtain⟨q1,q2,q3,q4⟩:=hjo.out b o hx
  refine⟨q1,q2,q3,fun k o' hk=>?_⟩
  by_cases hk':k=id
  ·subst hk';rw[upd_same]at hk
   exact hji (h2 j i b o o' _ _ hj hi hx hk)
  ·rw[upd_ne _ _ hk']at hk;exact q4 k o' hk
theorem giveUp{φ F G w m l}(hr:Rel φ F G w)(hal:Al φ F w m l):∃F':Nat→Prop,Rel φ F' G w∧Stp φ F G w φ F' G w∧(∀b,F' b→F b∨m≤b)∧
 ∀(i:Nat) u sz rows,l[i]? =some (some (u,sz,rows))→DRep w F' (.sl rows) u:=by
 obtain⟨xs,h1,h2⟩:=hal.ex
 let F':Nat→Prop:=fun b=>F b∨∃i e o,l[i]? =some (some e)∧xs i=some (b,o)
 have stp:Stp φ F G w φ F' G w:=⟨fun b hF=>⟨.inl hF,rfl⟩,fun j=>BStp.refl _ _ _ _⟩
 refine⟨F',⟨fun j bl hj=>BRep.mono stp rfl (fun _ _ _=>rfl) (hr.blk j bl hj),hr.dom,hr.inj,fun b hF=>?_⟩,stp,fun b hF=>?_,fun i u sz rows hi=>?_⟩
 ·rcases hF with hF|⟨i,e,o,hi,hx⟩
  ·exact hr.frz b hF
  ·obtain⟨q1,q2,q3,q4⟩:=(h1 i e hi).out b o hx
   exact⟨q2,fun j b' o' hj hbb=>q4 j o' (hbb▸hj)⟩
 ·rcases hF with hF|⟨i,e,o,hi,hx⟩
  ·exact .inl hF
  ·exact .inr ((h1 i e hi).out b o hx).1
 ·have ho:AlOne φ F w m u sz rows (xs i):=h1 i _ hi
  obtain⟨A,k,rfl,hlk,hor⟩:=ho.val
  rcases ho.blk with⟨_,rfl⟩|⟨b,o,cs,T,g1,g2,g3,g4,g5⟩
  ·exact .nil A k
  ·by_cases h0:rows=[]
   ·subst h0;exact .nil A k
   ·have hk:k≠0:=by
     intro h;subst h
     exact h0 (List.length_eq_zero_iff.1 (by omega))
    rcases hor with h|⟨b',o',n,e1,e2,_,_⟩
    ·exact(hk h).elim
    ·rw[g1]at e1;cases e1
     subst e2
     refine DRep.sl rows b o sz k (fun i j=>(cs[o+i*sz+j]?).getD (.bool true)) (.inr ⟨i,_,o,hi,g1⟩) hlk g4 (fun i row hi j d hj=>?_) (fun i row hi j d hj=>?_)
     ·obtain⟨u,hu,_⟩:=g5 i row hi j d hj
      rw[cell?_of_heap g2,hu];simp
     ·obtain⟨u,hu,hd⟩:=g5 i row hi j d hj
      rw[hu];exact hd.mono fun b hb=>⟨.inl hb,rfl⟩
end Go.Fw
namespace Go.Fw
abbrev Lks:=List (Value×Nat×Nat)
structure AS(n:Nat)(w0:World)(F0:Nat→Prop)(s:St)(l:List (Option AE))(K:Lks)(a:Act)(w:World)(φ:Phi)(F:Nat→Prop):Prop where
 rel:SRel n φ F s a w
 al:Al φ F w w0.heap.size l
 lk:∀x∈K,CRep φ F (hp s.heap) w (.own x.2.1 0 0 x.2.2 none) x.1
 size:w0.heap.size≤w.heap.size
 rest:∀b,b<w0.heap.size→w.heap[b]? =w0.heap[b]?
 own:∀id b o,φ id=some (b,o)→w0.heap.size≤b
 frz:∀b,F b→F0 b∨w0.heap.size≤b
 mono:∀b,F0 b→F b
 io:Io w0 w
theorem own_mono{m φ F G w φ' F' G' w' id ep off len cap v}(h:StpM m φ F G w φ' F' G' w')(hm:id<m)(hc:CRep φ F G w (.own id ep off len cap) v):CRep φ' F' G' w' (.own id ep off len cap) v:=by
 have stp:Stp φ F (fun i=>if i=id then G i else none) w φ' F' (fun i=>if i=id then G' i else none) w':=by
  refine⟨h.frz,fun i=>?_⟩
  by_cases hi:i=id
  ·subst hi;simp only[if_true];exact h.blk i hm
  ·simp only[if_neg hi];trivial
 have h1:CRep φ F (fun i=>if i=id then G i else none) w (.own id ep off len cap) v:=by
  obtain⟨e,sz,rows,hg,r⟩:=hc
  exact⟨e,sz,rows,by simp only[if_true];exact hg,r⟩
 obtain⟨e,sz,rows,hg,r⟩:=CRep.mono stp h1
 exact⟨e,sz,rows,by simpa only[if_true]using hg,r⟩
theorem AS.step{n w0 F0 s l K a w φ F m s' a' w' φ' F'}(h:AS n w0 F0 s l K a w φ F)(h2:SRel n φ' F' s' a' w')(hf:Fr φ F w φ' F' w')(hs:StpM m φ F (hp s.heap) w φ' F' (hp s'.heap) w')
 (hm:∀x∈K,x.2.1<m):AS n w0 F0 s' l K a' w' φ' F':=by
 refine⟨h2,h.al.keep hf hs.frz,fun x hx=>own_mono hs (hm x hx) (h.lk x hx),Nat.le_trans h.size hf.size,fun b hb=>?_,fun id b o hi=>?_,fun b hb=>?_,fun b hb=>(hs.frz b (h.mono b hb)).1,h.io.trans hf.io⟩
 ·rw[hf.rest b (Nat.lt_of_lt_of_le hb h.size) fun id o hi=>?_,h.rest b hb]
  have:=h.own id b o hi;omega
 ·rcases hf.own id b o hi with⟨i0,o0,h0⟩|h0
  ·exact h.own i0 b o0 h0
  ·exact Nat.le_trans h.size h0
 ·rcases hf.frz b hb with h0|⟨id,o,h0⟩|h0
  ·exact h.frz b h0
  ·exact .inr (h.own id b o h0)
  ·exact .inr (Nat.le_trans h.size h0)
abbrev RB:=XT→St→List (Option AE)→Lks→Prop
def XB(n:Nat)(w0:World)(F0:Nat→Prop)(R:RB):Exit→Act→World→Prop
 | .normal,a,w=>∃s l K φ F,R .normal s l K∧AS n w0 F0 s l K a w φ F
 | .exit id,a,w=>∃s l K φ F,R (.exit id) s l K∧AS n w0 F0 s l K a w φ F
 | .ret,a,w=>∃s l K φ F,R .ret s l K∧AS n w0 F0 s l K a w φ F
 |_,_,_=>False
def WB(P:Program)(n:Nat)(w0:World)(F0:Nat→Prop)(ac:AC)(R:RB)(s:St)(l:List (Option AE))(K:Lks):Prop:=
 ∀c,cCode P n c=some ac.er→∀φ F a w,AS n w0 F0 s l K a w φ F→c.wp P (XB n w0 F0 R) a w
def thenB(T:St→List (Option AE)→Lks→Prop)(R:RB):RB
 | .normal,s,l,K=>T s l K
 |x,s,l,K=>R x s l K
def blockB(id:Nat)(R:RB):RB
 | .exit i,s,l,K=>if i=id then R .normal s l K else R (.exit i) s l K
 |x,s,l,K=>R x s l K
section
variable {P:Program} {n:Nat} {w0:World} {F0:Nat→Prop} {R R':RB} {s:St} {l:List (Option AE)} {K:Lks} {a b:AC}
theorem WB.leaf(m:Nat)(hm:∀x∈K,x.2.1<m)(h:vc P n m a (fun e s'=>R e s' l K) s):WB P n w0 F0 a R s l K:=by
 intro c hc φ F ac w hs
 refine wp_mono (vc_sound c a _ s hc h φ F ac w hs.rel) fun e a' w' hq=>?_
 have go:∀e,Post n m φ F s w (fun s'=>R e s' l K) a' w'→∃s l K φ F,R e s l K∧AS n w0 F0 s l K a' w' φ F:=by
  rintro e ⟨s1,φ1,F1,h1,h2,h3,h4⟩
  exact⟨s1,l,K,φ1,F1,h1,hs.step h2 h3 h4 hm⟩
 cases e with
 |normal=>exact go _ hq
 |exit id=>exact go _ hq
 |ret=>exact go _ hq
 |_=>exact hq.elim
theorem WB.seq(h:WB P n w0 F0 a (thenB (fun s l K=>WB P n w0 F0 b R s l K) R) s l K):WB P n w0 F0 (.seq a b) R s l K:=by
 intro c hc φ F ac w hs
 cases c with
 |seq x y=>
  simp only[cCode,AC.er,Option.bind_eq_some_iff,Option.map_eq_some_iff,AC.seq.injEq]at hc
  obtain⟨_,hx,_,hy,rfl,rfl⟩:=hc
  refine wp_seq (wp_mono (h x hx φ F ac w hs) fun e a' w' hq=>?_)
  cases e with
  |normal=>
   obtain⟨s',l',K',φ',F',h1,h2⟩:=hq
   exact h1 y hy φ' F' a' w' h2
  |exit id=>exact hq
  |ret=>exact hq
  |_=>exact hq.elim
 |region id ops draw=>
  simp only[cCode,AC.er]at hc
  cases draw with
  |true=>
   simp only[if_true,cDraw,Option.bind_eq_some_iff]at hc
   obtain⟨_,_,hc⟩:=hc
   split at hc<;>cases hc
  |false=>
   simp only[Bool.false_eq_true,if_false,Option.map_eq_some_iff]at hc
   obtain⟨_,_,hc⟩:=hc;cases hc
 |cond=>simp only[cCode,AC.er,Option.bind_eq_some_iff,Option.map_eq_some_iff]at hc;obtain⟨_,_,_,_,_,_,hc⟩:=hc;cases hc
 |block=>simp only[cCode,AC.er,Option.map_eq_some_iff]at hc;obtain⟨_,_,hc⟩:=hc;cases hc
 |loop=>simp only[cCode,AC.er,Option.map_eq_some_iff]at hc;obtain⟨_,_,hc⟩:=hc;cases hc
 |_=>cases hc
theorem WB.block{id:Nat}(h:WB P n w0 F0 a (blockB id R) s l K):WB P n w0 F0 (.block id a) R s l K:=by
 intro c hc φ F ac w hs
 cases c with
 |block id' x=>
  simp only[cCode,AC.er,Option.map_eq_some_iff,AC.block.injEq]at hc
  obtain⟨_,hx,rfl,rfl⟩:=hc
  refine wp_block (wp_mono (h x hx φ F ac w hs) fun e a' w' hq=>?_)
  cases e with
  |normal=>exact hq
  |exit i=>
   simp only[Exit.inBlock]
   by_cases hi:i=id'
   ·subst hi
    simp only[if_true]
    obtain⟨s',l',K',φ',F',h1,h2⟩:=hq
    exact⟨s',l',K',φ',F',by simpa[blockB]using h1,h2⟩
   ·simp only[hi,if_false]
    obtain⟨s',l',K',φ',F',h1,h2⟩:=hq
    exact⟨s',l',K',φ',F',by simpa[blockB,hi]using h1,h2⟩
  |ret=>exact hq
  |_=>exact hq.elim
 |region id ops draw=>
  simp only[cCode,AC.er]at hc
  cases draw with
  |true=>
   simp only[if_true,cDraw,Option.bind_eq_some_iff]at hc
   obtain⟨_,_,hc⟩:=hc
   split at hc<;>cases hc
  |false=>
   simp only[Bool.false_eq_true,if_false,Option.map_eq_some_iff]at hc
   obtain⟨_,_,hc⟩:=hc;cases hc
 |cond=>simp only[cCode,AC.er,Option.bind_eq_some_iff,Option.map_eq_some_iff]at hc;obtain⟨_,_,_,_,_,_,hc⟩:=hc;cases hc
 |seq=>simp only[cCode,AC.er,Option.bind_eq_some_iff,Option.map_eq_some_iff]at hc;obtain⟨_,_,_,_,hc⟩:=hc;cases hc
 |loop=>simp only[cCode,AC.er,Option.map_eq_some_iff]at hc;obtain⟨_,_,hc⟩:=hc;cases hc
 |_=>cases hc
theorem WB.cond{o:O}{t:Bool}(ht:s.evV o=some (.bool t))(h1:t=true→WB P n w0 F0 a R s l K)(h0:t=false→WB P n w0 F0 b R s l K):WB P n w0 F0 (.cond o a b) R s l K:=by
 intro c hc φ F ac w hs
 cases c with
 |cond c' x y=>
  simp only[cCode,AC.er,Option.bind_eq_some_iff,Option.map_eq_some_iff]at hc
  obtain⟨_,hc',_,hx,_,hy,he⟩:=hc
  cases he
  have e:=evV_rep hs.rel hc' ht
  cases t with
  |true=>exact wp_cond_true e (h1 rfl x hx φ F ac w hs)
  |false=>exact wp_cond_false e (h0 rfl y hy φ F ac w hs)
 |region id ops draw=>
  simp only[cCode,AC.er]at hc
  cases draw with
  |true=>
   simp only[if_true,cDraw,Option.bind_eq_some_iff]at hc
   obtain⟨_,_,hc⟩:=hc
   split at hc<;>cases hc
  |false=>
   simp only[Bool.false_eq_true,if_false,Option.map_eq_some_iff]at hc
   obtain⟨_,_,hc⟩:=hc;cases hc
 |seq=>simp only[cCode,AC.er,Option.bind_eq_some_iff,Option.map_eq_some_iff]at hc;obtain⟨_,_,_,_,hc⟩:=hc;cases hc
 |block=>simp only[cCode,AC.er,Option.map_eq_some_iff]at hc;obtain⟨_,_,hc⟩:=hc;cases hc
 |loop=>simp only[cCode,AC.er,Option.map_eq_some_iff]at hc;obtain⟨_,_,hc⟩:=hc;cases hc
 |_=>cases hc
theorem WB.loop(I:Nat→St→List (Option AE)→Lks→Prop)(h0:∃k,I k s l K)
 (hr:∀k s l K,I k s l K→WB P n w0 F0 a (thenB (fun s' l' K'=>∃k',k'<k∧I k' s' l' K') R) s l K):WB P n w0 F0 (.loop a) R s l K:=by
 intro c hc φ F ac w hs
 cases c with
 |loop c=>
  simp only[cCode,AC.er,Option.map_eq_some_iff,AC.loop.injEq]at hc
  obtain⟨_,hx,rfl⟩:=hc
  obtain⟨k0,hI⟩:=h0
  refine wp_loop_g (fun k a' w'=>∃s' l' K' φ' F',I k s' l' K'∧AS n w0 F0 s' l' K' a' w' φ' F') (k0:=k0) ⟨s,l,K,φ,F,hI,hs⟩ ?_
  rintro k a' w' ⟨s',l',K',φ',F',g1,g2⟩
  refine wp_mono (hr k s' l' K' g1 c hx φ' F' a' w' g2) fun e a'' w'' hq=>?_
  cases e with
  |normal=>
   obtain⟨s2,l2,K2,φ2,F2,⟨k',hlt,hI'⟩,q⟩:=hq
   exact⟨k',hlt,s2,l2,K2,φ2,F2,hI',q⟩
  |exit id=>exact hq
  |ret=>exact hq
  |_=>exact hq.elim
 |region id ops draw=>
  simp only[cCode,AC.er]at hc
  cases draw with
  |true=>
   simp only[if_true,cDraw,Option.bind_eq_some_iff]at hc
   obtain⟨_,_,hc⟩:=hc
   split at hc<;>cases hc
  |false=>
   simp only[Bool.false_eq_true,if_false,Option.map_eq_some_iff]at hc
   obtain⟨_,_,hc⟩:=hc;cases hc
 |seq=>simp only[cCode,AC.er,Option.bind_eq_some_iff,Option.map_eq_some_iff]at hc;obtain⟨_,_,_,_,hc⟩:=hc;cases hc
 |cond=>simp only[cCode,AC.er,Option.bind_eq_some_iff,Option.map_eq_some_iff]at hc;obtain⟨_,_,_,_,_,_,hc⟩:=hc;cases hc
 |block=>simp only[cCode,AC.er,Option.map_eq_some_iff]at hc;obtain⟨_,_,hc⟩:=hc;cases hc
 |_=>cases hc
def Tell(n:Nat)(w0:World)(F0:Nat→Prop)(J:St→List (Option AE)→Lks→Prop)(s:St)(l:List (Option AE))(K:Lks):Prop:=
 ∀φ F a w,AS n w0 F0 s l K a w φ F→∃s' l' K' φ' F',J s' l' K'∧AS n w0 F0 s' l' K' a w φ' F'
theorem WB.tell{J:St→List (Option AE)→Lks→Prop}(h:Tell n w0 F0 J s l K)(h2:∀s' l' K',J s' l' K'→WB P n w0 F0 a R s' l' K'):WB P n w0 F0 a R s l K:=by
 intro c hc φ F ac w hs
 obtain⟨s',l',K',φ',F',hJ,h3⟩:=h φ F ac w hs
 exact h2 s' l' K' hJ c hc φ' F' ac w h3
theorem WB.post(h:WB P n w0 F0 a R' s l K)(hq:∀e s' l' K',R' e s' l' K'→Tell n w0 F0 (R e) s' l' K'):WB P n w0 F0 a R s l K:=by
 intro c hc φ F ac w hs
 refine wp_mono (h c hc φ F ac w hs) fun e a' w' hx=>?_
 cases e with
 |normal=>obtain⟨s1,l1,K1,φ1,F1,h1,h2⟩:=hx;exact hq _ _ _ _ h1 φ1 F1 a' w' h2
 |exit id=>obtain⟨s1,l1,K1,φ1,F1,h1,h2⟩:=hx;exact hq _ _ _ _ h1 φ1 F1 a' w' h2
 |ret=>obtain⟨s1,l1,K1,φ1,F1,h1,h2⟩:=hx;exact hq _ _ _ _ h1 φ1 F1 a' w' h2
 |_=>exact hx.elim
theorem Tell.refl{J:St→List (Option AE)→Lks→Prop}(h:J s l K):Tell n w0 F0 J s l K:=fun φ F _ _ hs=>⟨s,l,K,φ,F,h,hs⟩
theorem Tell.trans{J J':St→List (Option AE)→Lks→Prop}(h:Tell n w0 F0 J s l K)(h2:∀s' l' K',J s' l' K'→Tell n w0 F0 J' s' l' K'):Tell n w0 F0 J' s l K:=by
 intro φ F a w hs
 obtain⟨s',l',K',φ',F',hJ,h3⟩:=h φ F a w hs
 exact h2 s' l' K' hJ φ' F' a w h3
theorem lks_bound:∀(K:Lks),∀x∈K,x.2.1<K.foldr (fun x m=>max (x.2.1+1) m) 0
 |[],x,hx=>by cases hx
 |y::K,x,hx=>by
  simp only[List.foldr_cons]
  rcases List.mem_cons.1 hx with rfl|hx
  ·omega
  ·have:=lks_bound K x hx;omega
theorem WB.skip(h:R .normal s l K):WB P n w0 F0 .skip R s l K:=WB.leaf _ (lks_bound K) h
theorem WB.exit{id:Nat}(h:R (.exit id) s l K):WB P n w0 F0 (.exit id) R s l K:=WB.leaf _ (lks_bound K) h
theorem Tell.view{m:Nat}{s':St}(hm:∀x∈K,x.2.1<m)(hv:View n m s s'):Tell n w0 F0 (fun s1 l1 K1=>s1=s'∧l1=l∧K1=K) s l K:=by
 intro φ F a w hs
 obtain⟨φ',F',h1,h2,h3⟩:=hv φ F a w hs.rel
 exact⟨s',l,K,φ',F',⟨rfl,rfl,rfl⟩,hs.step h1 h2 h3 hm⟩
theorem callD_al{f:FuncId}{A:AFn}(hf:afn P f=some A.er){args:List A1}{H':List (Option Blk)}{res:List A1}(hlen:args.length≤A.ntmps)
 (h:∀w0 F0,WB P A.ntmps w0 F0 A.code (fun e s _ _=>endQ 0 A.rvs res H' e s) ⟨argSlots 0 args,[]⟩ [] []):CallD P f args [] (tupV res) H':=by
 refine callD_of (A:=⟨A.ntmps,A.rvs,.sem A.code⟩) (H:=[]) hf hlen ?_
 show WpC P A.ntmps 0 A.code (endQ 0 A.rvs res H') ⟨argSlots 0 args,[]⟩
 intro c hc φ F a w hs
 have hφ:∀id,φ id=none:=fun id=>by
  cases h:φ id with
  |none=>rfl
  |some y=>have:=hs.rel.dom id y h;simp[hp]at this
 have h0:AS A.ntmps w F ⟨argSlots 0 args,[]⟩ [] [] a w φ F:=⟨hs,Al.nil _ _ _ _,(fun x hx=>by cases hx),Nat.le_refl _,fun _ _=>rfl,(fun id b o hi=>by rw[hφ id]at hi;cases hi),fun b hb=> .inl hb,fun b hb=>hb,Io.refl _⟩
 refine wp_mono (h w F c hc φ F a w h0) fun e a' w' hx=>?_
 have go:∀e,(∃s l K φ' F',endQ 0 A.rvs res H' e s∧AS A.ntmps w F s l K a' w' φ' F')→Post A.ntmps 0 φ F ⟨argSlots 0 args,[]⟩ w (endQ 0 A.rvs res H' e) a' w':=by
  rintro e ⟨s1,l1,K1,φ1,F1,h1,h2⟩
  refine⟨s1,φ1,F1,h1,h2.rel,⟨h2.size,fun b hb _=>h2.rest b hb,fun id b o hi=> .inr (h2.own id b o hi),fun b hb=>(h2.frz b hb).imp id .inr,h2.io⟩,⟨fun b hb=>⟨h2.mono b hb,h2.rest b (hs.rel.frz b hb).1⟩,fun id hid=>by omega⟩⟩
 cases e with
 |normal=>exact go _ hx
 |exit id=>exact go _ hx
 |ret=>exact go _ hx
 |_=>exact hx.elim
end
end Go.Fw
namespace Go.Fw
section
variable {P:Program} {n m:Nat}
theorem vcOps_pre{ops:Array Oper}{mask:Nat→Nat}{Q:Exit→Act→World→Prop}{rest0:List Nat}:∀(l:List Oper) (k:Nat) (steps:List AStep) (s:St) (K:St→Prop),
 (∀j,j<l.length→l[j]? =ops[k+j]?)→k+l.length≤ops.size→cStepsFrom P n ops mask k l=some steps→vcOps P steps s K→
 ∀{φ F a w},SRel n φ F s a w→(∀a' w',Post n m φ F s w K a' w'→wpOps P ops Q rest0 a' w')→wpOps P ops Q (List.range' k l.length++rest0) a w
 |[],k,steps,s,K,hl,hk,hc,hv,φ,F,a,w,h,hQ=>by
  cases hc
  exact hQ a w ⟨s,φ,F,hv,h,Fr.refl _ _ _,StpM.refl _ _ _ _ _⟩
 |o::l,k,steps,s,K,hl,hk,hc,hv,φ,F,a,w,h,hQ=>by
  simp only[cStepsFrom,Option.bind_eq_some_iff,Option.map_eq_some_iff]at hc
  obtain⟨st,hst,steps',hsteps,rfl⟩:=hc
  obtain⟨hdn,hop,hdst,_,_,hguard⟩:=cStep_parts hst
  have ho:ops[k]? =some o:=by have:=hl 0 (by simp);simpa using this.symm
  simp only[List.length_cons,List.range'_succ,List.cons_append]
  have rest:∀{s':St} {φ' F' a' w'},vcOps P steps' s' K→SRel n φ' F' s' a' w'→Fr φ F w φ' F' w'→StpM m φ F (hp s.heap) w φ' F' (hp s'.heap) w'→
   wpOps P ops Q (List.range' (k+1) l.length++rest0) a' w':=by
   intro s' φ' F' a' w' hv' h' hf hs
   refine vcOps_pre l (k+1) steps' s' K (fun j hj=>?_) (by simp at hk;omega) hsteps hv' h' fun a'' w'' hp=>hQ _ _ ?_
   ·have:=hl (j+1) (by simp;omega);simp only[List.getElem?_cons_succ]at this;rw[this];congr 1;omega
   ·obtain⟨s2,φ2,F2,h1,h2,h3,h4⟩:=hp
    exact⟨s2,φ2,F2,h1,h2,hf.trans h3,hs.trans h4⟩
  have go:∀(sl:List (Nat×AV)),SRel n φ F ⟨sl,s.heap⟩ a w→opS P st.op ⟨sl,s.heap⟩ (fun out=>vcOps P steps' (St.apply ⟨sl,s.heap⟩ st.dst out) K)→o.wp P a w (wpOps P ops Q (List.range' (k+1) l.length++rest0)) Q:=by
   intro sl h hrun
   refine Oper.wp_mono ?_ (opS_sound h hop hrun Q)
   rintro a' w' ⟨v,rfl,⟨⟨out,φ',F',hK,hav,hr,hs,hf⟩⟩⟩
   rw[hdst]at hK
   exact rest hK (h.put hdn hav hr hs) hf hs.m
  have skip:∀(sl:List (Nat×AV)),SRel n φ F ⟨sl,s.heap⟩ a w→vcOps P steps' (St.apply ⟨sl,s.heap⟩ st.dst skipOut) K→wpOps P ops Q (List.range' (k+1) l.length++rest0) (a.put o.dst undef) w:=by
   intro sl h hsk
   rw[hdst]at hsk
   refine rest hsk (h.put hdn (out:=skipOut) (fun av hav=>?_) h.rel (Stp.refl _ _ _ _)) (Fr.refl _ _ _) (StpM.refl _ _ _ _ _)
   cases hav;exact⟨[],rfl,.nil⟩
  rw[wpOps_cons]
  unfold wpOp
  rw[ho]
  simp only
  simp only[vcOps]at hv
  cases hg:o.guard with
  |none=>
   rw[hg]at hguard
   rw[hguard]at hv
   simp only at hv
   simp only[Region.wanted,hg,if_true]
   exact .inl (go s.slots h hv)
  |some x=>
   obtain⟨g,want⟩:=x
   rw[hg]at hguard
   obtain⟨d,hd,hdn',hguard⟩:=hguard
   rw[hguard]at hv
   simp only at hv
   have hy:=yielded_at (a:=a) hd (by rw[h.size];exact hdn')
   split at hv
   ·rename_i t ht
    have hval:=h.slot _ _ ht
    generalize a.tmps.getD d undef=u at hval hy
    cases hval
    simp only at hy
    simp only[Region.wanted,hg,hy]
    by_cases htw:t=want
    ·subst htw;simp only[beq_self_eq_true,if_true];exact .inl (go _ (h.setB ht) (hv.1 rfl))
    ·have:(some t==some want)=false:=by simpa using htw
     simp only[this,Bool.false_eq_true,if_false]
     have htn:t= !want:=by cases t<;>cases want<;>simp_all
     exact skip _ (h.setB (by rw[←htn];exact ht)) (hv.2 htn)
   ·rename_i ht
    obtain⟨vs,hval,hvs⟩:=h.slot _ _ ht
    cases hvs
    rw[hval]at hy
    simp only at hy
    simp only[Region.wanted,hg,hy]
    have:((none:Option Bool)==some want)=false:=rfl
    simp only[this,Bool.false_eq_true,if_false]
    exact skip s.slots h hv
   ·exact hv.elim
theorem steps_cut(ops:Array Oper)(mask:Nat→Nat):∀(i:Nat) (l:List Oper) (k:Nat) (steps:List AStep),cStepsFrom P n ops mask k l=some steps→i≤l.length→
 cStepsFrom P n ops mask k (l.take i)=some (steps.take i)∧cStepsFrom P n ops mask (k+i) (l.drop i)=some (steps.drop i)
 |0,l,k,steps,h,_=>⟨rfl,by simpa using h⟩
 |i+1,[],k,steps,h,hi=>by simp at hi
 |i+1,o::l,k,steps,h,hi=>by
  simp only[cStepsFrom,Option.bind_eq_some_iff,Option.map_eq_some_iff]at h
  obtain⟨st,hst,steps',hs,rfl⟩:=h
  obtain⟨h1,h2⟩:=steps_cut ops mask i l (k+1) steps' hs (by simpa using hi)
  refine⟨?_,?_⟩
  ·simp only[List.take_succ_cons,cStepsFrom,hst,h1];rfl
  ·simp only[List.drop_succ_cons]
   rw[show k+(i+1)=k+1+i by omega];exact h2
theorem steps_len(ops:Array Oper)(mask:Nat→Nat):∀(l:List Oper) (k:Nat) (steps:List AStep),cStepsFrom P n ops mask k l=some steps→steps.length=l.length
 |[],k,steps,h=>by cases h;rfl
 |o::l,k,steps,h=>by
  simp only[cStepsFrom,Option.bind_eq_some_iff,Option.map_eq_some_iff]at h
  obtain⟨st,hst,steps',hs,rfl⟩:=h
  simp[steps_len ops mask l (k+1) steps' hs]
theorem WB.split{w0:World}{F0:Nat→Prop}{R:RB}{s:St}{l:List (Option AE)}{K:Lks}(s1 s2:List AStep)(hv:vcOps P s1 s fun s'=>Tell n w0 F0 (fun s2' l' K'=>vcOps P s2 s2' fun s3=>R .normal s3 l' K') s' l K):
 WB P n w0 F0 (.reg (s1++s2)) R s l K:=by
 intro c hc φ F a w hs
 cases c with
 |region id ops draw=>
  cases draw with
  |true=>
   simp only[cCode,AC.er,if_true,cDraw,Option.bind_eq_some_iff]at hc
   obtain⟨_,_,hc⟩:=hc
   split at hc<;>cases hc
  |false=>
   simp only[cCode,AC.er,Bool.false_eq_true,if_false,Option.map_eq_some_iff,AC.reg.injEq]at hc
   obtain⟨steps',hsteps,rfl⟩:=hc
   have hlen:=steps_len _ _ _ _ _ hsteps
   rw[List.length_append]at hlen
   obtain⟨c1,c2⟩:=steps_cut _ _ s1.length _ _ _ hsteps (by omega)
   rw[List.take_left,Nat.zero_add,List.drop_left]at*
   refine wp_region ?_
   have hl1:(ops.toList.take s1.length).length=s1.length:=by rw[List.length_take];omega
   have hl2:(ops.toList.drop s1.length).length=s2.length:=by rw[List.length_drop];omega
   have hsz:ops.toList.length=ops.size:=by simp
   have key:=vcOps_pre (m:=K.foldr (fun x m=>max (x.2.1+1) m) 0) (ops:=ops) (Q:=XB n w0 F0 R) (rest0:=List.range' s1.length s2.length) (ops.toList.take s1.length) 0 s1 s _ (fun j hj=>by rw[List.getElem?_take,if_pos (by omega)];simp) (by omega) c1 hv hs.rel (fun a' w' hp'=>?_)
   ·have e:=List.range'_append_1 (s:=0) (m:=s1.length) (n:=s2.length)
    rw[Nat.zero_add]at e
    rw[hl1,e]at key
    rw[List.range_eq_range']
    have:ops.size=s1.length+s2.length:=by omega
    rw[this];exact key
   ·obtain⟨s',φ',F',hT,h2,h3,h4⟩:=hp'
    obtain⟨s2',l',K',φ2,F2,hv2,h5⟩:=hT φ' F' a' w' (hs.step h2 h3 h4 (lks_bound K))
    have:=vcOps_sound (m:=K'.foldr (fun x m=>max (x.2.1+1) m) 0) (ops:=ops) (Q:=XB n w0 F0 R) (ops.toList.drop s1.length) s1.length s2 s2' _ (fun j=>by simp) (by omega) c2 hv2 h5.rel (fun a3 w3 hp3=>by
     obtain⟨s3,φ3,F3,hR,q2,q3,q4⟩:=hp3
     exact⟨s3,l',K',φ3,F3,hR,h5.step q2 q3 q4 (lks_bound K')⟩)
    rw[hl2]at this;exact this
 |seq=>simp only[cCode,AC.er,Option.bind_eq_some_iff,Option.map_eq_some_iff]at hc;obtain⟨_,_,_,_,hc⟩:=hc;cases hc
 |cond=>simp only[cCode,AC.er,Option.bind_eq_some_iff,Option.map_eq_some_iff]at hc;obtain⟨_,_,_,_,_,_,hc⟩:=hc;cases hc
 |block=>simp only[cCode,AC.er,Option.map_eq_some_iff]at hc;obtain⟨_,_,hc⟩:=hc;cases hc
 |loop=>simp only[cCode,AC.er,Option.map_eq_some_iff]at hc;obtain⟨_,_,hc⟩:=hc;cases hc
 |_=>cases hc
end
end Go.Fw
namespace Go.Fw
theorem All2.set{α β:Type}{R:α→β→Prop}{l:List α}{m:List β}(h:All2 R l m){j:Nat}{a:α}{b:β}(hb:m[j]? =some b)(hr:R a b):All2 R (l.set j a) m:=by
 induction h generalizing j with
 |nil=>simp at hb
 |cons x t ih=>
  cases j with
  |zero=>simp only[List.getElem?_cons_zero,Option.some.injEq]at hb;subst hb;exact .cons hr t
  |succ j=>simp only[List.getElem?_cons_succ]at hb;exact .cons x (ih hb)
theorem upd_self{α:Type}(f:Nat→α)(i:Nat):upd f i (f i)=f:=by
 funext j;by_cases h:j=i
 ·subst h;simp
 ·rw[upd_ne _ _ h]
theorem reBox{φ F G w}(h:Rel φ F G w){p:Nat}{cells cells':List C}(hG:G p=some (.box cells))(hc:∀vs,CsRep φ F G w cells vs→CsRep φ F G w cells' vs):
 Rel φ F (upd G p (some (.box cells'))) w∧Stp φ F G w φ F (upd G p (some (.box cells'))) w:=by
 have key:=h.update p (φ p) (.box cells') w (Nat.le_refl _) (Io.refl _) (fun _ _ _=>rfl) (fun b o hx=> .inl ⟨o,hx⟩) (by rw[hG];exact upd_same _ _ _) (fun stp=>by
  obtain⟨b,cs,T,h1,h2,h3⟩:=h.blk p _ hG
  rw[upd_self]at stp⊢
  exact⟨b,cs,T,h1,h2,(hc _ h3).mono stp⟩)
 rw[upd_self]at key
 exact⟨key.1,key.2.1⟩
theorem reArr{φ F G w}(h:Rel φ F G w){o e so:Nat}{R R':List (List D)}(hG:G o=some (.arr e so R))(hl:R'.length=R.length)
 (hc:∀(i:Nat) r r',R[i]? =some r→R'[i]? =some r'→r'.length=r.length∧∀(j:Nat) d d',r[j]? =some d→r'[j]? =some d'→∀u,DRep w F d u→DRep w F d' u):
 Rel φ F (upd G o (some (.arr e so R'))) w∧Stp φ F G w φ F (upd G o (some (.arr e so R'))) w:=by
 have key:=h.update o (φ o) (.arr e so R') w (Nat.le_refl _) (Io.refl _) (fun _ _ _=>rfl) (fun b o hx=> .inl ⟨o,hx⟩) (by rw[hG];exact⟨Nat.le_refl _,fun _=>⟨rfl,by omega,upd_same _ _ _,fun _ _ _=>rfl⟩⟩) (fun stp=>by
  rw[upd_self]at stp⊢
  rcases h.blk o _ hG with⟨h1,h2⟩|⟨b,o',cs,T,h1,h2,h3,h4,h5⟩
  ·subst h2;exact .inl ⟨h1,List.length_eq_zero_iff.1 hl⟩
  ·have hrow:∀(i:Nat) r',R'[i]? =some r'→∃r,R[i]? =some r∧r'.length=r.length:=fun i r' hi=>by
    have hlt:i<R.length:=by rw[←hl];exact(List.getElem?_eq_some_iff.1 hi).1
    exact⟨R[i],List.getElem?_eq_getElem hlt,(hc i _ _ (List.getElem?_eq_getElem hlt) hi).1⟩
   refine .inr ⟨b,o',cs,T,h1,h2,by rw[hl];exact h3,fun row hr=>?_,fun i r' hi j d' hj=>?_⟩
   ·obtain⟨i,hi,rfl⟩:=List.mem_iff_getElem.1 hr
    obtain⟨r,g1,g2⟩:=hrow i _ (List.getElem?_eq_getElem hi)
    rw[g2];exact h4 r (List.mem_of_getElem? g1)
   ·obtain⟨r,g1,g2⟩:=hrow i r' hi
    have hlt:j<r.length:=by rw[←g2];exact(List.getElem?_eq_some_iff.1 hj).1
    obtain⟨u,hu,hd⟩:=h5 i r g1 j r[j] (List.getElem?_eq_getElem hlt)
    exact⟨u,hu,(hc i r r' g1 hi).2 j _ d' (List.getElem?_eq_getElem hlt) hj u hd⟩)
 rw[upd_self]at key
 exact⟨key.1,key.2.1⟩
section
variable {n:Nat} {w0:World} {F0:Nat→Prop} {s:St} {l:List (Option AE)} {K:Lks}
theorem AS.re{a w φ F}(h:AS n w0 F0 s l K a w φ F){s':St}{l':List (Option AE)}{K':Lks}{φ' F'}(stp:Stp φ F (hp s.heap) w φ' F' (hp s'.heap) w)(hr:Rel φ' F' (hp s'.heap) w)
 (hsl:∀t av,Fw.lk s'.slots t=some av→AVRep φ' F' (hp s'.heap) w av (a.tmps.getD t undef)) (hal:Al φ' F' w w0.heap.size l') (hlk:∀x∈K',CRep φ' F' (hp s'.heap) w (.own x.2.1 0 0 x.2.2 none) x.1)
 (hown:∀id b o,φ' id=some (b,o)→w0.heap.size≤b) (hfrz:∀b,F' b→F0 b∨w0.heap.size≤b):AS n w0 F0 s' l' K' a w φ' F':=
 ⟨⟨h.rel.size,h.rel.defers,hr,hsl⟩,hal,hlk,h.size,h.rest,hown,hfrz,fun b hb=>(stp.frz b (h.mono b hb)).1,h.io⟩
theorem lk_cons(sl:List (Nat×AV))(t:Nat)(v:AV)(t':Nat):lk ((t,v)::sl) t'=if t'=t then some v else lk sl t':=by
 simp only[lk]
 by_cases h:t'=t
 ·subst h;simp
 ·have h':¬t=t':=fun e=>h e.symm
  simp[h,h']
theorem Tell.expel{t:Nat}{cs:List C}{j id e sz:Nat}{rows:List (List D)}(hs:lk s.slots t=some (.one (.agg cs)))(hj:cs[j]? =some (.own id e 0 rows.length none))(hG:hp s.heap id=some (.arr e sz rows)):
 Tell n w0 F0 (fun s' l' K'=>∃u,s'=⟨(t,.one (.agg (cs.set j (.d (.v u)))))::s.slots,hset s.heap id (.arr (e+1) sz [])⟩∧l'=l++[some (u,sz,rows)]∧K'=[]) s l K:=by
 intro φ F a w h
 obtain⟨vs,hv,hcs⟩:=h.rel.slot t _ hs
 obtain⟨u,hu,hc⟩:=All2.get hcs hj
 obtain⟨h1,h2,h3,h4⟩:=Fw.expel h.rel.rel hG hc h.al fun b o hi=>h.own id b o hi
 have e0:hp (hset s.heap id (.arr (e+1) sz []))=upd (hp s.heap) id (some (.arr (e+1) sz [])):=hp_hset _ _ _
 refine⟨_,_,_,upd φ id none,F,⟨u,rfl,rfl,rfl⟩,h.re (by rw[e0];exact h2) (by rw[e0];exact h1) (fun t' av hav=>?_) h4 (fun x hx=>by cases hx) (fun i b o hi=>?_) h.frz⟩
 ·rw[e0]
  simp only[lk_cons]at hav
  split at hav
  ·rename_i htt;subst htt;cases hav
   exact⟨vs,hv,(hcs.mono h2).set hu (DRep.v _ (CRep.isCell hc))⟩
  ·exact(h.rel.slot t' av hav).mono h2
 ·by_cases hi':i=id
  ·subst hi';rw[upd_same]at hi;cases hi
  ·rw[upd_ne _ _ hi']at hi;exact h.own i b o hi
theorem Tell.expelC{t:Nat}{id e sz:Nat}{rows:List (List D)}(hs:lk s.slots t=some (.one (.c (.own id e 0 rows.length none))))(hG:hp s.heap id=some (.arr e sz rows)):
 Tell n w0 F0 (fun s' l' K'=>∃u,s'=⟨(t,.one (.c (.d (.v u))))::s.slots,hset s.heap id (.arr (e+1) sz [])⟩∧l'=l++[some (u,sz,rows)]∧K'=[]) s l K:=by
 intro φ F a w h
 have hc:CRep φ F (hp s.heap) w (.own id e 0 rows.length none) (a.tmps.getD t undef):=h.rel.slot t _ hs
 obtain⟨h1,h2,h3,h4⟩:=Fw.expel h.rel.rel hG hc h.al fun b o hi=>h.own id b o hi
 have e0:hp (hset s.heap id (.arr (e+1) sz []))=upd (hp s.heap) id (some (.arr (e+1) sz [])):=hp_hset _ _ _
 refine⟨_,_,_,upd φ id none,F,⟨a.tmps.getD t undef,rfl,rfl,rfl⟩,h.re (by rw[e0];exact h2) (by rw[e0];exact h1) (fun t' av hav=>?_) h4 (fun x hx=>by cases hx) (fun i b o hi=>?_) h.frz⟩
 ·rw[e0]
  simp only[lk_cons]at hav
  split at hav
  ·rename_i htt;subst htt;cases hav
   exact DRep.v _ (CRep.isCell hc)
  ·exact(h.rel.slot t' av hav).mono h2
 ·by_cases hi':i=id
  ·subst hi';rw[upd_same]at hi;cases hi
  ·rw[upd_ne _ _ hi']at hi;exact h.own i b o hi
theorem Tell.adopt{p:Nat}{cells:List C}{j i sz:Nat}{u:Value}{rows:List (List D)}(hB:hp s.heap p=some (.box cells))(hj:cells[j]? =some (.d (.v u)))(hi:l[i]? =some (some (u,sz,rows))):
 Tell n w0 F0 (fun s' l' K'=>s'=⟨s.slots,hset (hset s.heap s.heap.length (.arr 0 sz rows)) p (.box (cells.set j (.own s.heap.length 0 0 rows.length none)))⟩∧l'=l.set i none∧K'=[(u,s.heap.length,rows.length)]) s l K:=by
 intro φ F a w h
 obtain⟨x,h1,h2,h3,h4,h5⟩:=Fw.adopt h.rel.rel (hp_len s.heap) h.al hi
 have hpne:p≠s.heap.length:=fun e=>by subst e;rw[hp_len]at hB;cases hB
 have hB':upd (hp s.heap) s.heap.length (some (.arr 0 sz rows)) p=some (.box cells):=by rw[upd_ne _ _ hpne];exact hB
 obtain⟨g1,g2⟩:=reBox h1 (cells':=cells.set j (.own s.heap.length 0 0 rows.length none)) hB' (fun vs hvs=>by
  obtain⟨v,hv,hc⟩:=All2.get hvs hj
  cases hc
  exact hvs.set hv h3)
 have e0:hp (hset (hset s.heap s.heap.length (.arr 0 sz rows)) p (.box (cells.set j (.own s.heap.length 0 0 rows.length none))))=upd (upd (hp s.heap) s.heap.length (some (.arr 0 sz rows))) p (some (.box (cells.set j (.own s.heap.length 0 0 rows.length none)))):=by
  rw[hp_hset,hp_hset]
 refine⟨_,_,_,upd φ s.heap.length x,F,⟨rfl,rfl,rfl⟩,h.re (by rw[e0];exact h2.trans g2) (by rw[e0];exact g1) (fun t av hav=>?_) h4 (fun y hy=>?_) (fun k b o hk=>?_) h.frz⟩
 ·rw[e0];exact(h.rel.slot t av hav).mono (h2.trans g2)
 ·rw[e0]
  rcases List.mem_singleton.1 hy with rfl
  exact h3.mono g2
 ·by_cases hk':k=s.heap.length
  ·subst hk';rw[upd_same]at hk;exact h5 b o hk
  ·rw[upd_ne _ _ hk']at hk;exact h.own k b o hk
theorem Tell.adoptC{t:Nat}{i sz:Nat}{u:Value}{rows:List (List D)}(hs:lk s.slots t=some (.one (.c (.d (.v u)))))(hi:l[i]? =some (some (u,sz,rows))):
 Tell n w0 F0 (fun s' l' K'=>s'=⟨(t,.one (.c (.own s.heap.length 0 0 rows.length none)))::s.slots,hset s.heap s.heap.length (.arr 0 sz rows)⟩∧l'=l.set i none∧K'=[(u,s.heap.length,rows.length)]) s l K:=by
 intro φ F a w h
 obtain⟨x,h1,h2,h3,h4,h5⟩:=Fw.adopt h.rel.rel (hp_len s.heap) h.al hi
 have e0:hp (hset s.heap s.heap.length (.arr 0 sz rows))=upd (hp s.heap) s.heap.length (some (.arr 0 sz rows)):=hp_hset _ _ _
 refine⟨_,_,_,upd φ s.heap.length x,F,⟨rfl,rfl,rfl⟩,h.re (by rw[e0];exact h2) (by rw[e0];exact h1) (fun t' av hav=>?_) h4 (fun y hy=>?_) (fun k b o hk=>?_) h.frz⟩
 ·rw[e0]
  simp only[lk_cons]at hav
  split at hav
  ·rename_i htt;subst htt;cases hav
   have hold:=h.rel.slot t' _ hs
   generalize a.tmps.getD t' undef=v at hold⊢
   cases hold
   exact h3
  ·exact(h.rel.slot t' av hav).mono h2
 ·rw[e0]
  rcases List.mem_singleton.1 hy with rfl
  exact h3
 ·by_cases hk':k=s.heap.length
  ·subst hk';rw[upd_same]at hk;exact h5 b o hk
  ·rw[upd_ne _ _ hk']at hk;exact h.own k b o hk
theorem Tell.unlend{id o e so sz:Nat}{u:Value}{rows R R':List (List D)}(hK:K=[(u,id,rows.length)])(hG:hp s.heap id=some (.arr 0 sz rows))(hO:hp s.heap o=some (.arr e so R))(hio:o≠id)(hl:R'.length=R.length)
 (hc:∀(i:Nat) r r',R[i]? =some r→R'[i]? =some r'→r'.length=r.length∧∀(j:Nat) d d',r[j]? =some d→r'[j]? =some d'→d'=d∨(d= .v u∧d'= .sl rows)):
 Tell n w0 F0 (fun s' l' K'=>s'=⟨s.slots,hset (hset s.heap id (.arr 1 sz [])) o (.arr e so R')⟩∧l'=l∧K'=[]) s l K:=by
 intro φ F a w h
 obtain⟨h1,h2,h3⟩:=Rel.freeze h.rel.rel sz hG
 have hu:CRep φ F (hp s.heap) w (.own id 0 0 rows.length none) u:=h.lk (u,id,rows.length) (by rw[hK];exact List.mem_singleton.2 rfl)
 have hd:DRep w (fun b=>F b∨∃o,φ id=some (b,o)) (.sl rows) u:=by
  have:=CRep.frozen h.rel.rel hG hu (by omega) (F':=fun b=>F b∨∃o,φ id=some (b,o)) (fun b hb=> .inl hb) (fun b o ho=> .inr ⟨o,ho⟩)
  rwa [List.drop_zero,List.take_length]at this
 have hO':upd (hp s.heap) id (some (.arr (0+1) sz [])) o=some (.arr e so R):=by rw[upd_ne _ _ hio];exact hO
 obtain⟨g1,g2⟩:=reArr h1 (R':=R') hO' hl (fun i r r' hr hr'=>by
  obtain⟨q1,q2⟩:=hc i r r' hr hr'
  refine⟨q1,fun j d d' hj hj' v hv=>?_⟩
  rcases q2 j d d' hj hj' with rfl|⟨rfl,rfl⟩
  ·exact hv
  ·cases hv;exact hd)
 have e0:hp (hset (hset s.heap id (.arr 1 sz [])) o (.arr e so R'))=upd (upd (hp s.heap) id (some (.arr (0+1) sz []))) o (some (.arr e so R')):=by rw[hp_hset,hp_hset]
 refine⟨_,_,_,upd φ id none,_,⟨rfl,rfl,rfl⟩,h.re (by rw[e0];exact h2.trans g2) (by rw[e0];exact g1) (fun t av hav=>?_) (h.al.keep h3 h2.frz) (fun y hy=>by cases hy) (fun k b o hk=>?_) (fun b hb=>?_)⟩
 ·rw[e0];exact(h.rel.slot t av hav).mono (h2.trans g2)
 ·by_cases hk':k=id
  ·subst hk';rw[upd_same]at hk;cases hk
  ·rw[upd_ne _ _ hk']at hk;exact h.own k b o hk
 ·rcases hb with hb|⟨o',hb⟩
  ·exact h.frz b hb
  ·exact .inr (h.own id b o' hb)
theorem Tell.giveUp{o e so:Nat}{R R':List (List D)}(hO:hp s.heap o=some (.arr e so R))(hl:R'.length=R.length)
 (hc:∀(i:Nat) r r',R[i]? =some r→R'[i]? =some r'→r'.length=r.length∧∀(j:Nat) d d',r[j]? =some d→r'[j]? =some d'→d'=d∨∃(k:Nat) (u:Value) (sz:Nat) (rows:List (List D)),d= .v u∧l[k]? =some (some (u,sz,rows))∧d'= .sl rows):
 Tell n w0 F0 (fun s' l' K'=>s'=⟨s.slots,hset s.heap o (.arr e so R')⟩∧l'=[]∧K'=[]) s l K:=by
 intro φ F a w h
 obtain⟨F',h1,h2,h3,h4⟩:=Fw.giveUp h.rel.rel h.al
 obtain⟨g1,g2⟩:=reArr h1 (R':=R') hO hl (fun i r r' hr hr'=>by
  obtain⟨q1,q2⟩:=hc i r r' hr hr'
  refine⟨q1,fun j d d' hj hj' v hv=>?_⟩
  rcases q2 j d d' hj hj' with rfl|⟨k,u,sz,rows,rfl,hk,rfl⟩
  ·exact hv
  ·cases hv;exact h4 k _ sz rows hk)
 have e0:hp (hset s.heap o (.arr e so R'))=upd (hp s.heap) o (some (.arr e so R')):=hp_hset _ _ _
 refine⟨_,_,_,φ,F',⟨rfl,rfl,rfl⟩,h.re (by rw[e0];exact h2.trans g2) (by rw[e0];exact g1) (fun t av hav=>?_) (Al.nil _ _ _ _) (fun y hy=>by cases hy) h.own (fun b hb=>?_)⟩
 ·rw[e0];exact(h.rel.slot t av hav).mono (h2.trans g2)
 ·rcases h3 b hb with hb|hb
  ·exact h.frz b hb
  ·exact .inr hb
theorem Tell.unlink:Tell n w0 F0 (fun s' l' K'=>s'=s∧l'=l∧K'=[]) s l K:=fun φ F _ _ h=>
 ⟨s,l,[],φ,F,⟨rfl,rfl,rfl⟩,⟨h.rel,h.al,(fun x hx=>by cases hx),h.size,h.rest,h.own,h.frz,h.mono,h.io⟩⟩
end
end Go.Fw
namespace Go.Fw
def xQ(n m:Nat)(Rx:Nat→St→Prop)(Rr:St→Prop):XT→St→Prop
 | .normal,_=>False
 | .exit i,s=>∃s'',View n m s s''∧Rx i s''
 | .ret,s=>∃s'',View n m s s''∧Rr s''
def pQ(Rn:St→Prop)(Rx:Nat→St→Prop)(Rr:St→Prop):XT→St→Prop
 | .normal,s=>Rn s
 | .exit i,s=>Rx i s
 | .ret,s=>Rr s
section
variable {P:Program} {n m:Nat} {w0:World} {F0:Nat→Prop} {s:St} {l:List (Option AE)} {K:Lks} {a:AC} {Rn Rr:St→Prop} {Rx:Nat→St→Prop}
theorem WB.piece(hm:∀x∈K,x.2.1<m)(h:sK P n m a [] (sM n m Rn (xQ n m Rx Rr)) s):WB P n w0 F0 a (fun e s' l' K'=>l'=l∧K'=K∧pQ Rn Rx Rr e s') s l K:=by
 rw[sK_eq,sM_eq]at h
 refine WB.post (R':=fun e s' l' K'=>l'=l∧K'=K∧semQ n m Rn (xQ n m Rx Rr) e s') (WB.leaf m hm ?_) ?_
 ·simp only[true_and];exact vcK_of h
 ·rintro e s' l2 K2 ⟨h1,h2,hq⟩
  rw[h1,h2]
  have go:∀{R:St→Prop},(∃s'',View n m s' s''∧R s'')→Tell n w0 F0 (fun s2 l' K'=>l'=l∧K'=K∧R s2) s' l K:=by
   rintro R ⟨s2,hv,hR⟩
   refine(Tell.view hm hv).trans ?_
   rintro _ _ _ ⟨rfl,rfl,rfl⟩
   exact Tell.refl ⟨rfl,rfl,hR⟩
  cases e with
  |normal=>exact go hq
  |exit i=>exact go hq
  |ret=>exact go hq
theorem endX{i:Nat}{s':St}{sl:List (Nat×AV)}{H':List (Option Blk)}(σ:Src)(hS:Sh m s'.heap σ H')(hs:shSl s'.heap σ H' s'.slots sl)(hR:Rx i ⟨sl,H'⟩):xQ n m Rx Rr (.exit i) s':=by
 exact⟨_,View.sh σ hS hs,hR⟩
theorem endR{s':St}{sl:List (Nat×AV)}{H':List (Option Blk)}(σ:Src)(hS:Sh m s'.heap σ H')(hs:shSl s'.heap σ H' s'.slots sl)(hR:Rr ⟨sl,H'⟩):xQ n m Rx Rr .ret s':=by
 exact⟨_,View.sh σ hS hs,hR⟩
end
end Go.Fw
namespace Go.Fw
theorem store_inv0{P:Program}{op:Op}{m:Nat}{x' y':O}(h:cOp0 P op=some (.store m x' y')):∃t x y,op= .store t x y∧szT P t=some m∧cO x=some x'∧cO y=some y':=by
 by_cases hs:∃t x y,op= .store t x y
 ·obtain⟨t,x,y,rfl⟩:=hs
  simp only[cOp0,Option.bind_eq_some_iff,Option.map_eq_some_iff,AOp.store.injEq]at h
  obtain⟨k,hk,a,ha,b,hb,rfl,rfl,rfl⟩:=h
  exact⟨t,x,y,rfl,hk,ha,hb⟩
 ·exfalso
  unfold cOp0 at h
  split at h
  case h_9=>exact hs ⟨_,_,_,rfl⟩
  all_goals(clear hs;revert h)
  all_goals(first|(simp[Option.bind_eq_some_iff,Option.map_eq_some_iff];done)|(try unfold cBin))
  all_goals(repeat' split)
  all_goals simp[Option.bind_eq_some_iff,Option.map_eq_some_iff]
theorem store_inv{P:Program}{op:Op}{m:Nat}{x' y':O}(h:cOp P op=some (.store m x' y')):∃t x y,op= .store t x y∧szT P t=some m∧cO x=some x'∧cO y=some y':=by
 unfold cOp at h
 split at h
 all_goals(try(exact store_inv0 (by
  rw[Option.bind_eq_some_iff]at h
  obtain⟨a,h1,h2⟩:=h
  split at h2
  ·cases h2;exact h1
  ·cases h2)))
 all_goals(exfalso;revert h)
 all_goals(first|(simp[Option.bind_eq_some_iff,Option.map_eq_some_iff];done)|(repeat' split)<;>simp[Option.bind_eq_some_iff,Option.map_eq_some_iff])
section
variable {P:Program} {o:Oper} {a:Act} {φ:Phi} {F:Nat→Prop} {s:St} {w:World} {K:Out→Prop} {n:Nat}
theorem snd_storeR(h:SRel n φ F s a w){t:TypeId}{x y:Operand}(ho:o.op= .store t x y){m:Nat}{x' y':O}(ht:szT P t=some m)(hx:cO x=some x')(hy:cO y=some y')
 {id ep row:Nat} {rows2:List (List D)} {r ds:List D} (hx':s.evC x'=some (.pe id ep row 0)) (hG2:hp s.heap id=some (.arr ep m rows2)) (hrow:rows2[row]? =some r)
 {v:A1} (hv:s.ev y'=some (.one v)) (hvc:v.cells=ds.map .d) (hm:ds.length=m) (hpos:0<m) (hK:K ⟨none,[(id,.arr ep m (rows2.set row ds))]⟩):OpRun P o a φ F s w K:=by
 have hcells:CsRep φ F (hp s.heap) w (ds.map .d) (a.eval y).cells.toList:=by
  rw[←hvc];exact A1Rep.cells (show A1Rep φ F (hp s.heap) w v (a.eval y)from cO_ev h hy hv)
 have hlen:(a.eval y).cells.toList.length=m:=by rw[←All2.length hcells,←hm];simp[A1.cells]
 have hall:=CsRep.isCell hcells
 have hne:(a.eval y).cells.toList≠[]:=by intro he;rw[he]at hlen;simp at hlen;omega
 have d1:All2 (fun d u=>DRep w F d u) ds (a.eval y).cells.toList:=by
  have:∀(ds:List D) (vs:List Value),CsRep φ F (hp s.heap) w (ds.map .d) vs→All2 (fun d u=>DRep w F d u) ds vs:=by
   intro ds
   induction ds with
   |nil=>intro vs hvs;cases hvs;exact .nil
   |cons d ds ih=>intro vs hvs;cases hvs with|cons q qs=>exact .cons q (ih _ qs)
  exact this ds _ hcells
 obtain⟨e,sz,rows,hG,hle,A,he,hA⟩:=evC_rep h hx hx'
 rw[hG2]at hG;cases hG
 obtain⟨b,o',hφ,hlt,rfl⟩:=hA rfl
 have r1:=h.rel
 rcases r1.blk _ _ hG2 with⟨q1,rfl⟩|⟨b',o2,cs,T,q1,q2,q3,q4,q5⟩
 ·simp at hrow
 rw[hφ]at q1;simp only[Option.some.injEq,Prod.mk.injEq]at q1
 obtain⟨rfl,rfl⟩:=q1
 have hbl:b<w.heap.size:=r1.lt hφ
 have hrl:r.length=m:=q4 r (List.mem_of_getElem? hrow)
 have hrowlt:row<rows2.length:=(List.getElem?_eq_some_iff.1 hrow).1
 have hmul:row*m+m≤rows2.length*m:=by
  have:=Nat.mul_le_mul_right m hrowlt
  rw[Nat.succ_mul]at this;exact this
 have hspl:splice r 0 ds=ds:=by simp[splice,hm,hrl]
 obtain⟨off,hoff⟩:∃off,off=0:=⟨0,rfl⟩
 have hle2:off+m≤r.length:=by omega
 rw[←hoff]at he hspl
 have hdl0:ds.length=m:=hm
 obtain⟨w',hr,hone⟩:=run_storeCells (P:=P) (b:=b) (o:=o'+row*m+off) (T:=T) (a.eval y).cells.toList 0 w cs.toList (by simpa using q2) (by rw[hlen];simp;omega) hall hne
 refine⟨undef,w',.inr ⟨?_,rfl⟩,?_⟩
 ·refine exec_u (x:=Instr.storeAt t (a.eval x) (a.eval y)) (by simp only[execOp,ho]) ?_
  simp only[Instr.storeAt,he,Instr.sureAddr,run_bind,run_pure,storeVar,run_sizeOf ht]
  rw[if_neg (by simp[←hlen])]
  exact hr
 ·have hu:upd φ id (some (b,o'))=φ:=by funext j;by_cases hj:j=id<;>simp[upd,hj,hφ]
  have hdl:ds.length=m:=by rw[All2.length d1,hlen]
  obtain⟨g1,g2,g3⟩:=r1.update id (some (b,o')) (.arr ep m (rows2.set row (splice r off ds))) w' (by rw[hone.size];exact Nat.le_refl _) hone.io
   (fun b2 _ hn=>hone.rest b2 (fun he=>hn o' (he▸hφ))) (fun b2 o2 hx2=>by cases hx2;exact .inl ⟨o',hφ⟩)
   (by
     rw[hG2,hu]
     refine⟨Nat.le_refl _,fun _=>⟨rfl,by simp,rfl,fun b2 o2 hb2=>?_⟩⟩
     rw[hφ]at hb2;cases hb2
     refine hone.set q2 ?_
     rw[splice_length _ _ _ (by rw[hlen];simp;omega)];simp)
   (fun stp=>by
     refine .inr ⟨b,o',_,T,upd_same _ _ _,hone.blk,?_,?_,?_⟩
     ·simp only[List.size_toArray,List.length_set]
      rw[splice_length _ _ _ (by rw[hlen];simp;omega)];simpa using q3
     ·intro r' hr'
      rcases List.mem_or_eq_of_mem_set hr' with hr'|rfl
      ·exact q4 r' hr'
      ·rw[splice_length _ _ _ (by rw[hdl];exact hle2)];exact hrl
     ·intro i r' hi j d hj
      have hst:=stp.frz
      rw[List.getElem?_set]at hi
      have hcl:(splice cs.toList (o'+row*m+off) (a.eval y).cells.toList).length=cs.size:=by
       rw[splice_length _ _ _ (by rw[hlen];simp;omega)];simp
      have hsp:∀(p:Nat),(splice cs.toList (o'+row*m+off+0) (a.eval y).cells.toList).toArray[p]? =
       if p<o'+row*m+off then cs[p]? else if p<o'+row*m+off+m then(a.eval y).cells.toList[p-(o'+row*m+off)]? else cs[p]? :=by
       intro p
       simp only[Nat.add_zero,List.getElem?_toArray,splice]
       rw[List.getElem?_append,List.getElem?_append]
       simp only[List.length_append,List.length_take,Array.length_toList,hlen]
       have:min (o'+row*m+off) cs.size=o'+row*m+off:=by omega
       rw[this]
       by_cases c1:p<o'+row*m+off
       ·rw[if_pos (by omega),if_pos c1,if_pos c1,List.getElem?_take,if_pos c1];simp
       ·by_cases c2:p<o'+row*m+off+m
        ·rw[if_pos c2,if_neg c1,if_neg c1,if_pos c2]
        ·rw[if_neg c2,if_neg c1,if_neg c2,List.getElem?_drop]
         simp only[Array.getElem?_toList]
         congr 1;omega
      by_cases hij:row=i
      ·subst hij
       simp only[if_true,hrowlt]at hi
       cases hi
       simp only[splice]at hj
       rw[List.getElem?_append,List.getElem?_append]at hj
       simp only[List.length_append,List.length_take,hdl]at hj
       have:min off r.length=off:=by omega
       rw[this]at hj
       rw[hsp]
       by_cases c1:j<off
       ·rw[if_pos (by omega),if_pos c1,List.getElem?_take,if_pos c1]at hj
        rw[if_pos (by omega)]
        obtain⟨u,hu,hd⟩:=q5 row r hrow j d hj
        exact⟨u,hu,hd.mono hst⟩
       ·by_cases c2:j<off+m
        ·rw[if_pos c2,if_neg c1]at hj
         rw[if_neg (by omega),if_pos (by omega)]
         obtain⟨u,hu,hd⟩:=All2.get d1 hj
         exact⟨u,by rw[show o'+row*m+j-(o'+row*m+off)=j-off by omega];exact hu,hd.mono hst⟩
        ·rw[if_neg c2,List.getElem?_drop]at hj
         rw[if_neg (by omega),if_neg (by omega)]
         obtain⟨u,hu,hd⟩:=q5 row r hrow _ d hj
         exact⟨u,by rw[show off+m+(j-(off+m))=j by omega]at hu;exact hu,hd.mono hst⟩
      ·rw[if_neg hij]at hi
       obtain⟨u,hu,hd⟩:=q5 i r' hi j d hj
       refine⟨u,?_,hd.mono hst⟩
       have hjl:j<m:=by
        rw[←q4 r' (List.mem_of_getElem? hi)];exact(List.getElem?_eq_some_iff.1 hj).1
       rw[hsp]
       rcases Nat.lt_or_gt_of_ne hij with hlt|hgt
       ·have:row*m+m≤i*m:=by have:=Nat.mul_le_mul_right m hlt;rw[Nat.succ_mul]at this;exact this
        rw[if_neg (by omega),if_neg (by omega)];exact hu
       ·have:i*m+m≤row*m:=by have:=Nat.mul_le_mul_right m hgt;rw[Nat.succ_mul]at this;exact this
        rw[if_pos (by omega)];exact hu)
  have e:hp (wrs s.heap [(id,Blk.arr ep m (rows2.set row (splice r off ds)))])=upd (hp s.heap) id (some (Blk.arr ep m (rows2.set row (splice r off ds)))):=hp_hset _ _ _
  refine⟨⟨⟨none,[(id,Blk.arr ep m (rows2.set row (splice r off ds)))]⟩,_,F,(by rw[hspl];exact hK),(fun av hav=>by cases hav),(by rw[e];exact g1),(by rw[e];exact g2),g3⟩⟩
end
section
variable {P:Program} {n m:Nat} {w0:World} {F0:Nat→Prop} {R:RB} {s:St} {l:List (Option AE)} {K:Lks}
theorem WB.splitR(s1:List AStep){st:AStep}{x' y':O}(hst:st.op= .store m x' y')(hg:st.guard=none)(hd:st.dst=none)
 {K1:St→Prop} (hv:vcOps P s1 s K1) (hT1:∀s',K1 s'→Tell n w0 F0 (fun s2 l' K'=>∃id ep row rows r ds,s2.evC x'=some (.pe id ep row 0)∧hp s2.heap id=some (.arr ep m rows)∧rows[row]? =some r∧s2.ev y'=some (.one (.agg (ds.map .d)))∧ds.length=m∧0<m∧
   R .normal ⟨s2.slots,hset s2.heap id (.arr ep m (rows.set row ds))⟩ l' K') s' l K):WB P n w0 F0 (.reg (s1++[st])) R s l K:=by
 intro c hc φ F a w hs
 cases c with
 |region id ops draw=>
  cases draw with
  |true=>
   simp only[cCode,AC.er,if_true,cDraw,Option.bind_eq_some_iff]at hc
   obtain⟨_,_,hc⟩:=hc
   split at hc<;>cases hc
  |false=>
   simp only[cCode,AC.er,Bool.false_eq_true,if_false,Option.map_eq_some_iff,AC.reg.injEq]at hc
   obtain⟨steps',hsteps,rfl⟩:=hc
   have hlen:=steps_len _ _ _ _ _ hsteps
   rw[List.length_append]at hlen
   obtain⟨c1,c2⟩:=steps_cut _ _ s1.length _ _ _ hsteps (by omega)
   rw[List.take_left,Nat.zero_add,List.drop_left]at*
   refine wp_region ?_
   have hl1:(ops.toList.take s1.length).length=s1.length:=by rw[List.length_take];omega
   simp only[List.length_singleton]at hlen
   have hl2:(ops.toList.drop s1.length).length=1:=by rw[List.length_drop];omega
   have hsz:ops.toList.length=ops.size:=by simp
   have key:=vcOps_pre (m:=K.foldr (fun x m=>max (x.2.1+1) m) 0) (ops:=ops) (Q:=XB n w0 F0 R) (rest0:=List.range' s1.length 1) (ops.toList.take s1.length) 0 s1 s _ (fun j hj=>by rw[List.getElem?_take,if_pos (by omega)];simp) (by omega) c1 hv hs.rel (fun a' w' hp'=>?_)
   ·have e:=List.range'_append_1 (s:=0) (m:=s1.length) (n:=1)
    rw[Nat.zero_add]at e
    rw[hl1,e]at key
    rw[List.range_eq_range']
    have:ops.size=s1.length+1:=by omega
    rw[this];exact key
   ·obtain⟨s',φ',F',hT,h2,h3,h4⟩:=hp'
    obtain⟨s2,l',K',φ2,F2,⟨id,ep,row,rows,r,ds,e1,e2,e3,e4,e5,e6,hR⟩,h5⟩:=hT1 _ hT φ' F' a' w' (hs.step h2 h3 h4 (lks_bound K))
    obtain⟨o,ho⟩:∃o,ops.toList.drop s1.length=[o]:=List.length_eq_one_iff.1 hl2
    rw[ho]at c2
    simp only[cStepsFrom,Option.bind_eq_some_iff,Option.map_eq_some_iff]at c2
    obtain⟨st',hst',_,_,hcons⟩:=c2
    cases hcons
    obtain⟨hdn,hop,hdst,_,_,hguard⟩:=cStep_parts hst'
    have hoo:ops[s1.length]? =some o:=by
     have:(ops.toList.drop s1.length)[0]? =some o:=by rw[ho];rfl
     rw[List.getElem?_drop]at this;simpa using this
    rw[hst]at hop
    obtain⟨t,x,y,q1,q2,q3,q4⟩:=store_inv hop
    have hrun:=snd_storeR (K:=fun out=>out=⟨none,[(id,.arr ep m (rows.set row ds))]⟩) h5.rel q1 q2 q3 q4 e1 e2 e3 e4 rfl e5 e6 rfl
    have hwp:=hrun.wp (XB n w0 F0 R)
    show wpOps P ops (XB n w0 F0 R) [s1.length] a' w'
    rw[wpOps_cons]
    unfold wpOp
    rw[hoo]
    cases hgo:o.guard with
    |some g=>
     rw[hgo]at hguard
     obtain⟨d,_,_,hguard⟩:=hguard
     rw[hg]at hguard;cases hguard
    |none=>
     simp only[Region.wanted,hgo,if_true]
     refine .inl (Oper.wp_mono ?_ hwp)
     rintro a2 w2 ⟨v,rfl,⟨⟨out,φ3,F3,rfl,hav,hr,hs3,hf⟩⟩⟩
     have hput:=h5.rel.put hdn hav hr hs3
     have hod:o.dst=none:=by rw[←hdst,hd]
     rw[hod]at hput⊢
     exact⟨_,l',K',φ3,F3,hR,h5.step hput hf hs3.m (lks_bound K')⟩
 |seq=>simp only[cCode,AC.er,Option.bind_eq_some_iff,Option.map_eq_some_iff]at hc;obtain⟨_,_,_,_,hc⟩:=hc;cases hc
 |cond=>simp only[cCode,AC.er,Option.bind_eq_some_iff,Option.map_eq_some_iff]at hc;obtain⟨_,_,_,_,_,_,hc⟩:=hc;cases hc
 |block=>simp only[cCode,AC.er,Option.map_eq_some_iff]at hc;obtain⟨_,_,hc⟩:=hc;cases hc
 |loop=>simp only[cCode,AC.er,Option.map_eq_some_iff]at hc;obtain⟨_,_,hc⟩:=hc;cases hc
 |_=>cases hc
theorem piece_ops{P:Program}{n m:Nat}{s:St}{ops:List AStep}{Rn:St→Prop}{Q:XT→St→Prop}(h:sK P n m (.reg ops) [] (sM n m Rn Q) s):vcOps P ops s fun s'=>∃s'',View n m s' s''∧Rn s'':=by
 rw[sK_eq,sM_eq]at h;exact h
theorem WB.pc{P:Program}{n m:Nat}{w0:World}{F0:Nat→Prop}{R:RB}{s:St}{l:List (Option AE)}{K:Lks}{a:AC}{Rn Rr:St→Prop}{Rx:Nat→St→Prop}(hm:∀x∈K,x.2.1<m)
 (h:sK P n m a [] (sM n m Rn (xQ n m Rx Rr)) s) (hn:∀s',Rn s'→Tell n w0 F0 (R .normal) s' l K) (hx:∀i s',Rx i s'→Tell n w0 F0 (R (.exit i)) s' l K) (hr:∀s',Rr s'→Tell n w0 F0 (R .ret) s' l K):WB P n w0 F0 a R s l K:=by
 refine WB.post (WB.piece hm h) ?_
 rintro e s' l' K' ⟨h1,h2,hq⟩
 rw[h1,h2]
 cases e with
 |normal=>exact hn _ hq
 |exit i=>exact hx _ _ hq
 |ret=>exact hr _ hq
theorem WB.pseq{P:Program}{n m:Nat}{w0:World}{F0:Nat→Prop}{R:RB}{s:St}{l:List (Option AE)}{K:Lks}{a b:AC}{Rn Rr:St→Prop}{Rx:Nat→St→Prop}(hm:∀x∈K,x.2.1<m)
 (h:sK P n m a [] (sM n m Rn (xQ n m Rx Rr)) s) (hn:∀s',Rn s'→WB P n w0 F0 b R s' l K) (hx:∀i s',Rx i s'→Tell n w0 F0 (R (.exit i)) s' l K) (hr:∀s',Rr s'→Tell n w0 F0 (R .ret) s' l K):WB P n w0 F0 (.seq a b) R s l K:=
 WB.seq (WB.pc hm h (fun s' h'=>Tell.refl (hn s' h')) hx hr)
theorem kNil{m:Nat}:∀x∈([]:Lks),x.2.1<m:=fun x hx=>by cases hx
theorem noX{p:Nat→St→Prop}:∀(i:Nat) (s:St),False→p i s:=fun _ _ h=>h.elim
theorem noR{p:St→Prop}:∀(s:St),False→p s:=fun _ h=>h.elim
end
end Go.Fw
namespace Go.Fw
section
variable {P:Program} {n:Nat} {ops:Array Oper} {o:Oper} {steps:List AStep} {st:AStep}
theorem push_lt{i:Nat}(h:i<ops.size):(ops.push o)[i]? =ops[i]? :=by
 rw[Array.getElem?_push];rw[if_neg (by omega)]
theorem app_lt{i:Nat}(h:i<steps.length):(steps++[st])[i]? =steps[i]? :=List.getElem?_append_left h
theorem DrawOk.pop(hd:DrawOk P n (ops.push o) (steps++[st]))(hdst:st.dst=none):DrawOk P n ops steps:=by
 have hlen:steps.length=ops.size:=by have:=hd.len;simp at this;exact this
 have up:∀{i:Nat} {x:AStep},steps[i]? =some x→(steps++[st])[i]? =some x:=fun h=>by
  rw[app_lt (List.getElem?_eq_some_iff.1 h).1];exact h
 have down:∀{i:Nat} {x:AStep},i<ops.size→(steps++[st])[i]? =some x→steps[i]? =some x:=fun h g=>by rwa [app_lt (by omega)]at g
 have hod:o.dst=none:=by
  obtain⟨x,h1,_,_,h2,_⟩:=hd.step ops.size o (by simp)
  rw[←hlen,List.getElem?_append_right (Nat.le_refl _),Nat.sub_self]at h1
  cases h1;rw[←h2];exact hdst
 have hnx:∀g:Nat,((ops.push o)[g]?).bind (fun(z:Oper)=>z.dst)=(ops[g]?).bind (fun(z:Oper)=>z.dst):=fun g=>by
  by_cases h:g<ops.size
  ·rw[push_lt h]
  ·have h1:ops[g]? =none:=Array.getElem?_eq_none (by omega)
   rw[h1,Array.getElem?_push]
   by_cases h2:g=ops.size
   ·rw[if_pos h2];simp[hod]
   ·rw[if_neg h2,h1]
 refine⟨hlen,?_,?_,?_,?_,?_,?_,?_⟩
 ·intro i x hx
  have hi:=(Array.getElem?_eq_some_iff.1 hx).1
  obtain⟨y,h1,h2,h3,h4,h5⟩:=hd.step i x (by rw[push_lt hi];exact hx)
  refine⟨y,down hi h1,h2,h3,h4,?_⟩
  cases hg:x.guard with
  |none=>rw[hg]at h5;exact h5
  |some z=>
   obtain⟨g,want⟩:=z
   rw[hg]at h5
   simp only at h5⊢
   rw[hnx]at h5;exact h5
 ·intro i x hx ts hts j y hy hji
  rcases hd.lone i x (up hx) ts hts j y (up hy) hji with h|h|⟨h1,oa,h2,h3⟩
  ·exact .inl h
  ·exact .inr (.inl h)
  ·exact .inr (.inr ⟨h1,oa,h2,fun a ha=>⟨(h3 a ha).1,fun k z hk hki hz=>(h3 a ha).2 k z hk hki (up hz)⟩⟩)
 ·intro i x hx cs hcs c hc
  obtain⟨h1,h2⟩:=hd.own i x (up hx) cs hcs c hc
  exact⟨h1,fun k y hy=>h2 k y (up hy)⟩
 ·intro i x y hx hy
  have hi:=(Array.getElem?_eq_some_iff.1 hx).1
  obtain⟨h1,h2⟩:=hd.edge i x y (by rw[push_lt hi];exact hx) (up hy)
  refine⟨h1,fun j hj=>?_⟩
  obtain⟨e,he,hb,h3⟩:=h2 j hj
  refine⟨e,he,hb,h3.imp id fun⟨z,hz,hj⟩=>⟨z,down ?_ hz,hj⟩⟩
  have:=(hd.trans i y (up hy) e.on (h1 e he hb)).1
  omega
 ·intro i x hx j hj
  obtain⟨h1,y,h2,h3⟩:=hd.trans i x (up hx) j hj
  have:=(List.getElem?_eq_some_iff.1 hx).1
  exact⟨h1,y,down (by omega) h2,h3⟩
 ·intro i x hx t ht k y hy
  exact hd.read i x (up hx) t ht k y (up hy)
 ·intro i k x y t hx hy
  exact hd.dst i k x y t (up hx) (up hy)
def ListOk(steps:List AStep)(listed:Array Bool):Prop:=∀(i:Nat) x,listed[i]? =some true→steps[i]? =some x→∀j∈x.bef,listed[j]? =some true
def QL(P:Program)(ops:Array Oper)(M:Nat)(Q:Exit→Act→World→Prop):Exit→Act→World→Prop
 | .normal,a,w=>wpOp P ops Q M (fun a w=>Q .normal a w) a w
 |e,a,w=>Q e a w
theorem wpOp_last{Q:Exit→Act→World→Prop}{i:Nat}(hi:i<ops.size)(hod:o.dst=none){K:Act→World→Prop}{a:Act}{w:World}(h:wpOp P ops (QL P (ops.push o) ops.size Q) i K a w):wpOp P (ops.push o) Q i K a w:=by
 have hy:yielded (ops.push o) a.tmps=yielded ops a.tmps:=by
  funext j
  unfold yielded
  by_cases hj:j<ops.size
  ·rw[push_lt hj]
  ·have h1:ops[j]? =none:=Array.getElem?_eq_none (by omega)
   rw[h1,Array.getElem?_push]
   by_cases h2:j=ops.size
   ·rw[if_pos h2];simp[hod]
   ·rw[if_neg h2,h1]
 unfold wpOp at h⊢
 rw[push_lt hi]
 cases hx:ops[i]? with
 |none=>rw[hx]at h;exact h
 |some x=>
  rw[hx]at h
  simp only at h⊢
  rw[hy]
  split
  ·rename_i hw
   rw[if_pos hw]at h
   exact h
  ·rename_i hw
   rw[if_neg hw]at h
   exact h
theorem ready_mem{ops:Array Oper}{listed:Array Bool}{i:Nat}:i∈Region.ready .any ops listed↔i<ops.size∧listed.getD i true=false∧∃o,ops[i]? =some o∧∀e∈o.after,Region.binds .any e=true→listed.getD e.on false=true:=by
 unfold Region.ready
 simp only[List.mem_filter,List.mem_range,Bool.and_eq_true,Bool.not_eq_true']
 refine and_congr_right fun hi=>and_congr_right fun _=>?_
 rw[Array.getElem?_eq_getElem hi]
 simp only[Option.map_some,Option.getD_some,Array.all_eq_true,Option.some.injEq,exists_eq_left',Bool.or_eq_true,Bool.not_eq_true']
 constructor
 ·intro h e he hb
  obtain⟨k,hk,rfl⟩:=Array.mem_iff_getElem.1 he
  rcases h k hk with h|h
  ·rw[hb]at h;cases h
  ·exact h
 ·intro h k hk
  by_cases hb:Region.binds .any (ops[i].after[k])=true
  ·exact .inr (h _ (Array.getElem_mem _) hb)
  ·exact .inl (by simpa using hb)
theorem wpAny_last{Q:Exit→Act→World→Prop}(hd:DrawOk P n (ops.push o) (steps++[st]))(hdst:st.dst=none)(hall:∀j,j<ops.size→j∈st.bef)(hne:0<ops.size):
 ∀(fuel:Nat) (listed:Array Bool) (a:Act) (w:World),listed.size=ops.size→listed.count false≤fuel→ListOk steps listed→wpAny P .any ops (QL P (ops.push o) ops.size Q) fuel listed a w→
  wpAny P .any (ops.push o) Q (fuel+1) (listed.push false) a w:=by
 have hlen:steps.length=ops.size:=by have:=hd.len;simp at this;exact this
 have hlast:(steps++[st])[ops.size]? =some st:=by rw[←hlen];simp
 have hod:o.dst=none:=by
  obtain⟨x,h1,_,_,h2,_⟩:=hd.step ops.size o (by simp)
  rw[hlast]at h1
  cases h1;rw[←h2];exact hdst
 have hedge:=hd.edge ops.size o st (by simp) hlast
 have hgl:∀{listed:Array Bool} {j:Nat},listed.size=ops.size→j<ops.size→(listed.push false).getD j false=listed.getD j false:=fun hs hj=>by
  simp only[Array.getD_eq_getD_getElem?];rw[Array.getElem?_push,if_neg (by omega)]
 have hglt:∀{listed:Array Bool} {j:Nat},listed.size=ops.size→j<ops.size→(listed.push false).getD j true=listed.getD j true:=fun hs hj=>by
  simp only[Array.getD_eq_getD_getElem?];rw[Array.getElem?_push,if_neg (by omega)]
 have fin:∀(fuel:Nat) (listed:Array Bool) (a:Act) (w:World),listed.size=ops.size→(∀j,j<ops.size→listed[j]? =some true)→wpOp P (ops.push o) Q ops.size (fun a w=>Q .normal a w) a w→
  wpAny P .any (ops.push o) Q (fuel+1) (listed.push false) a w:=by
  intro fuel listed a w hs hl h
  have hr:∀i,i∈Region.ready .any (ops.push o) (listed.push false)↔i=ops.size:=fun i=>by
   rw[ready_mem]
   constructor
   ·rintro⟨h1,h2,_⟩
    simp at h1
    by_cases hi:i<ops.size
    ·rw[hglt hs hi,Array.getD_eq_getD_getElem?,hl i hi]at h2;cases h2
    ·omega
   ·rintro rfl
    refine⟨by simp,?_,o,by simp,fun e he hb=>?_⟩
    ·rw[Array.getD_eq_getD_getElem?,←hs];simp
    ·have:=(hd.trans ops.size st hlast e.on (hedge.1 e he hb)).1
     rw[hgl hs this,Array.getD_eq_getD_getElem?,hl _ this];rfl
  have hr2:Region.ready .any (ops.push o) ((listed.push false).setIfInBounds ops.size true)=[]:=by
   rw[List.eq_nil_iff_forall_not_mem]
   intro i hi
   rw[ready_mem]at hi
   obtain⟨h1,h2,_⟩:=hi
   simp at h1
   rw[Array.getD_eq_getD_getElem?,Array.getElem?_setIfInBounds]at h2
   by_cases hi:i<ops.size
   ·rw[if_neg (by omega),Array.getElem?_push,if_neg (by omega),hl i hi]at h2;cases h2
   ·rw[if_pos (by omega),if_pos (by simp;omega)]at h2;cases h2
  refine⟨fun h0=>?_,fun i hi=>?_⟩
  ·have:=(hr ops.size).2 rfl
   rw[h0]at this;cases this
  ·rw[(hr i).1 hi]
   refine wpOp_mono (fun a w hq=>?_) h
   cases fuel with
   |zero=>exact⟨hr2,hq⟩
   |succ fuel=>exact⟨fun _=>hq,fun i hi=>by rw[hr2]at hi;cases hi⟩
 intro fuel
 induction fuel with
 |zero=>
  intro listed a w hs hc hok h
  refine fin 0 listed a w hs (fun j hj=>?_) h.2
  have:listed.count false=0:=by omega
  rw[Array.count_eq_zero]at this
  rw[Array.getElem?_eq_getElem (by omega)]
  cases hv:listed[j]'(by omega)with
  |true=>rfl
  |false=>exact absurd (hv▸Array.getElem_mem (by omega)) this
 |succ fuel ih=>
  intro listed a w hs hc hok h
  by_cases hl:∀j,j<ops.size→listed[j]? =some true
  ·refine fin (fuel+1) listed a w hs hl ?_
   refine h.1 ?_
   rw[List.eq_nil_iff_forall_not_mem]
   intro i hi
   rw[ready_mem]at hi
   rw[Array.getD_eq_getD_getElem?,hl i hi.1]at hi
   cases hi.2.1
  ·
   have hex:∃j,j<ops.size∧listed[j]? =some false:=by
    obtain⟨j,hj⟩:=Classical.not_forall.1 hl
    obtain⟨hj,h⟩:=Classical.not_imp.1 hj
    refine⟨j,hj,?_⟩
    rw[Array.getElem?_eq_getElem (by omega)]at h⊢
    cases hv:listed[j]'(by omega)with
    |true=>rw[hv]at h;exact(h rfl).elim
    |false=>rfl
   obtain⟨j0,hj0,hl0⟩:=hex
   have hr:∀i,i∈Region.ready .any (ops.push o) (listed.push false)↔i∈Region.ready .any ops listed:=fun i=>by
    rw[ready_mem,ready_mem]
    constructor
    ·rintro⟨h1,h2,x,h3,h4⟩
     simp at h1
     have hi:i<ops.size:=by
      by_cases hi:i<ops.size
      ·exact hi
      ·exfalso
       have hio:i=ops.size:=by omega
       subst hio
       simp at h3;subst h3
       obtain⟨e,he,hb,hj⟩:=hedge.2 j0 (hall j0 hj0)
       have hon:=(hd.trans ops.size st hlast e.on (hedge.1 e he hb)).1
       have hlon:=h4 e he hb
       rw[hgl hs hon]at hlon
       have hlon2:listed[e.on]? =some true:=by
        rw[Array.getD_eq_getD_getElem?,Array.getElem?_eq_getElem (by omega)]at hlon
        rw[Array.getElem?_eq_getElem (by omega)];simpa using hlon
       rcases hj with rfl|⟨x,hx,hj⟩
       ·rw[hl0]at hlon2;cases hlon2
       ·have:=hok e.on x hlon2 (by rw[app_lt (by omega)]at hx;exact hx) j0 hj
        rw[hl0]at this;cases this
     rw[push_lt hi]at h3
     refine⟨hi,by rw[←hglt hs hi];exact h2,x,h3,fun e he hb=>?_⟩
     have hst:∃y,steps[i]? =some y:=⟨_,List.getElem?_eq_getElem (by omega)⟩
     obtain⟨y,hy⟩:=hst
     have hyy:(steps++[st])[i]? =some y:=by rw[app_lt (by omega)];exact hy
     have hon:=(hd.trans i y hyy e.on ((hd.edge i x y (by rw[push_lt hi];exact h3) hyy).1 e he hb)).1
     have:=h4 e he hb
     rwa [hgl hs (by omega)]at this
    ·rintro⟨hi,h2,x,h3,h4⟩
     refine⟨by simp;omega,by rw[hglt hs hi];exact h2,x,by rw[push_lt hi];exact h3,fun e he hb=>?_⟩
     have hst:∃y,steps[i]? =some y:=⟨_,List.getElem?_eq_getElem (by omega)⟩
     obtain⟨y,hy⟩:=hst
     have hyy:(steps++[st])[i]? =some y:=by rw[app_lt (by omega)];exact hy
     have hon:=(hd.trans i y hyy e.on ((hd.edge i x y (by rw[push_lt hi];exact h3) hyy).1 e he hb)).1
     rw[hgl hs (by omega)];exact h4 e he hb
   have hne2:Region.ready .any ops listed≠[]:=by
    intro h0
    have key:∀k,k≤ops.size→∀j,j<k→listed[j]? =some true:=by
     intro k
     induction k with
     |zero=>intro _ j hj;omega
     |succ k ihk=>
      intro hk j hj
      by_cases hjk:j<k
      ·exact ihk (by omega) j hjk
      ·have:j=k:=by omega
       subst this
       cases hv:listed[j]'(by omega)with
       |true=>rw[Array.getElem?_eq_getElem (by omega),hv]
       |false=>
        exfalso
        have hm:j∈Region.ready .any ops listed:=by
         rw[ready_mem]
         refine⟨by omega,by rw[Array.getD_eq_getD_getElem?,Array.getElem?_eq_getElem (by omega),hv];rfl,ops[j]'(by omega),Array.getElem?_eq_getElem (by omega),fun e he hb=>?_⟩
         obtain⟨y,hy⟩:∃y,steps[j]? =some y:=⟨_,List.getElem?_eq_getElem (by omega)⟩
         have hyy:(steps++[st])[j]? =some y:=by rw[app_lt (by omega)];exact hy
         have hon:=(hd.trans j y hyy e.on ((hd.edge j _ y (by rw[push_lt (by omega)];exact Array.getElem?_eq_getElem (by omega)) hyy).1 e he hb)).1
         rw[Array.getD_eq_getD_getElem?,ihk (by omega) e.on hon];rfl
        rw[h0]at hm;cases hm
    have:=key ops.size (Nat.le_refl _) j0 hj0
    rw[hl0]at this;cases this
   refine⟨fun h0=>?_,fun i hi=>?_⟩
   ·exfalso
    cases hq:Region.ready .any ops listed with
    |nil=>exact hne2 hq
    |cons x xs=>
     have:x∈Region.ready .any (ops.push o) (listed.push false):=(hr x).2 (by rw[hq];exact List.mem_cons_self ..)
     rw[h0]at this;cases this
   ·have hi':=(hr i).1 hi
    have hih:=h.2 i hi'
    rw[ready_mem]at hi'
    obtain⟨hil,hnl,x,hx,haft⟩:=hi'
    refine wpOp_last hil hod (wpOp_mono (fun a w hq=>?_) hih)
    have e:(listed.push false).setIfInBounds i true=(listed.setIfInBounds i true).push false:=by
     apply Array.ext_getElem?
     intro j
     rw[Array.getElem?_setIfInBounds,Array.getElem?_push,Array.getElem?_push,Array.getElem?_setIfInBounds]
     simp only[Array.size_push,Array.size_setIfInBounds]
     by_cases hij:i=j
     ·subst hij
      rw[if_pos rfl,if_pos (by omega),if_neg (by omega),if_pos rfl,if_pos (by omega)]
     ·rw[if_neg hij,if_neg hij]
    rw[e]
    have hnf:listed[i]? =some false:=by
     rw[Array.getD_eq_getD_getElem?,Array.getElem?_eq_getElem (by omega)]at hnl
     rw[Array.getElem?_eq_getElem (by omega)];simpa using hnl
    refine ih _ a w (by simpa using hs) ?_ ?_ hq
    ·have hlt:i<listed.size:=by omega
     rw[Array.getElem?_eq_getElem hlt]at hnf
     have:(listed.setIfInBounds i true).count false+1=listed.count false:=by
      rw[Array.setIfInBounds_def,dif_pos hlt]
      have hv:listed[i]=false:=Option.some.inj hnf
      have h1:=Array.count_set (a:=true) (b:=false) (xs:=listed) (i:=i) (h:=hlt)
      rw[h1]
      have h2:0<listed.count false:=Array.count_pos_iff.2 (hv▸Array.getElem_mem hlt)
      simp[hv];omega
     omega
    ·intro k y hk hy j hj
     rw[Array.getElem?_setIfInBounds]at hk⊢
     by_cases hki:i=k
     ·subst hki
      have hyy:(steps++[st])[i]? =some y:=by rw[app_lt (by omega)];exact hy
      have hed:=hd.edge i x y (by rw[push_lt hil];exact hx) hyy
      obtain⟨e',he',hb',hj'⟩:=hed.2 j hj
      have hji:=(hd.trans i y hyy j hj).1
      rw[if_neg (by omega)]
      have hlon:=haft e' he' hb'
      have hon:=(hd.trans i y hyy e'.on (hed.1 e' he' hb')).1
      have hlon2:listed[e'.on]? =some true:=by
       rw[Array.getD_eq_getD_getElem?,Array.getElem?_eq_getElem (by omega)]at hlon
       rw[Array.getElem?_eq_getElem (by omega)];simpa using hlon
      rcases hj' with rfl|⟨z,hz,hj'⟩
      ·exact hlon2
      ·exact hok e'.on z hlon2 (by rw[app_lt (by omega)]at hz;exact hz) j hj'
     ·rw[if_neg hki]at hk
      have:=hok k y hk hy j hj
      split
      ·rename_i hij
       subst hij
       rw[hnf]at this;cases this
      ·exact this
end
end Go.Fw
namespace Go.Fw
def RawAt(m:Nat)(x' y':O)(T:St→List (Option AE)→Lks→Prop)(s:St)(l:List (Option AE))(K:Lks):Prop:=
 ∃(id ep row:Nat) (rows:List (List D)) (r ds:List D) (v:A1),s.evC x'=some (.pe id ep row 0)∧hp s.heap id=some (.arr ep m rows)∧rows[row]? =some r∧s.ev y'=some (.one v)∧v.cells=ds.map .d∧ds.length=m∧0<m∧
  T ⟨s.slots,hset s.heap id (.arr ep m (rows.set row ds))⟩ l K
section
variable {P:Program} {n m:Nat} {w0:World} {F0:Nat→Prop} {R:RB} {s:St} {l:List (Option AE)} {K:Lks}
def WS(P:Program)(n:Nat)(w0:World)(F0:Nat→Prop)(steps:List AStep)(T:St→List (Option AE)→Lks→Prop)(s:St)(l:List (Option AE))(K:Lks):Prop:=
 ∀(ops:Array Oper) (mask:Nat→Nat) (Q:Exit→Act→World→Prop) (rest0:List Nat) (os:List Oper) (k:Nat),(∀j,j<os.length→os[j]? =ops[k+j]?)→k+os.length≤ops.size→cStepsFrom P n ops mask k os=some steps→
  ∀φ F a w,AS n w0 F0 s l K a w φ F→(∀a' w' s' l' K' φ' F',T s' l' K'→AS n w0 F0 s' l' K' a' w' φ' F'→wpOps P ops Q rest0 a' w')→wpOps P ops Q (List.range' k os.length++rest0) a w
theorem WS.ops{steps:List AStep}{T:St→List (Option AE)→Lks→Prop}{K1:St→Prop}(hv:vcOps P steps s K1)(hT:∀s',K1 s'→Tell n w0 F0 T s' l K):WS P n w0 F0 steps T s l K:=by
 intro ops mask Q rest0 os k h1 h2 h3 φ F a w hs hQ
 refine vcOps_pre (m:=K.foldr (fun x m=>max (x.2.1+1) m) 0) os k steps s K1 h1 h2 h3 hv hs.rel fun a' w' hp'=>?_
 obtain⟨s',φ',F',hK,q2,q3,q4⟩:=hp'
 obtain⟨s2,l2,K2,φ2,F2,hT2,h5⟩:=hT s' hK φ' F' a' w' (hs.step q2 q3 q4 (lks_bound K))
 exact hQ a' w' s2 l2 K2 φ2 F2 hT2 h5
theorem WS.append{s1 s2:List AStep}{T:St→List (Option AE)→Lks→Prop}(h:WS P n w0 F0 s1 (fun s' l' K'=>WS P n w0 F0 s2 T s' l' K') s l K):WS P n w0 F0 (s1++s2) T s l K:=by
 intro ops mask Q rest0 os k h1 h2 h3 φ F a w hs hQ
 have hlen:=steps_len _ _ _ _ _ h3
 rw[List.length_append]at hlen
 obtain⟨c1,c2⟩:=steps_cut _ _ s1.length _ _ _ h3 (by omega)
 rw[List.take_left]at c1
 rw[List.drop_left]at c2
 have hl1:(os.take s1.length).length=s1.length:=by rw[List.length_take];omega
 have hl2:(os.drop s1.length).length=s2.length:=by rw[List.length_drop];omega
 have key:=h ops mask Q (List.range' (k+s1.length) s2.length++rest0) (os.take s1.length) k (fun j hj=>by rw[List.getElem?_take,if_pos (by omega)];exact h1 j (by omega)) (by omega) c1 φ F a w hs fun a' w' s' l' K' φ' F' hT hs'=>by
  have:=hT ops mask Q rest0 (os.drop s1.length) (k+s1.length) (fun j hj=>by rw[List.getElem?_drop,h1 _ (by omega)];congr 1;omega) (by omega) c2 φ' F' a' w' hs' hQ
  rw[hl2]at this;exact this
 rw[hl1,←List.append_assoc,List.range'_append_1]at key
 rw[←hlen];exact key
theorem WS.raw{st:AStep}{x' y':O}{T:St→List (Option AE)→Lks→Prop}(hst:st.op= .store m x' y')(hg:st.guard=none)(hd:st.dst=none)(h:RawAt m x' y' T s l K):WS P n w0 F0 [st] T s l K:=by
 intro ops mask Q rest0 os k h1 h2 h3 φ F a w h5 hQ
 obtain⟨id,ep,row,rows,r,ds,v,e1,e2,e3,e4,e4',e5,e6,hR⟩:=h
 have hlen:=steps_len _ _ _ _ _ h3
 obtain⟨o,rfl⟩:=List.length_eq_one_iff.1 hlen.symm
 simp only[cStepsFrom,Option.bind_eq_some_iff,Option.map_eq_some_iff]at h3
 obtain⟨st',hst',_,_,hcons⟩:=h3
 cases hcons
 obtain⟨hdn,hop,hdst,_,_,hguard⟩:=cStep_parts hst'
 have hoo:ops[k]? =some o:=by have:=h1 0 (by simp);simpa using this.symm
 rw[hst]at hop
 obtain⟨t,x,y,q1,q2,q3,q4⟩:=store_inv hop
 have hrun:=snd_storeR (K:=fun out=>out=⟨none,[(id,.arr ep m (rows.set row ds))]⟩) h5.rel q1 q2 q3 q4 e1 e2 e3 e4 e4' e5 e6 rfl
 have hwp:=hrun.wp Q
 show wpOps P ops Q (k::rest0) a w
 rw[wpOps_cons]
 unfold wpOp
 rw[hoo]
 cases hgo:o.guard with
 |some g=>
  rw[hgo]at hguard
  obtain⟨d,_,_,hguard⟩:=hguard
  rw[hg]at hguard;cases hguard
 |none=>
  simp only[Region.wanted,hgo,if_true]
  refine .inl (Oper.wp_mono ?_ hwp)
  rintro a2 w2 ⟨v,rfl,⟨⟨out,φ3,F3,rfl,hav,hr,hs3,hf⟩⟩⟩
  have hput:=h5.rel.put hdn hav hr hs3
  have hod:o.dst=none:=by rw[←hdst,hd]
  rw[hod]at hput⊢
  exact hQ _ _ _ l K φ3 F3 hR (h5.step hput hf hs3.m (lks_bound K))
theorem WB.ws{steps:List AStep}(h:WS P n w0 F0 steps (R .normal) s l K):WB P n w0 F0 (.reg steps) R s l K:=by
 intro c hc φ F a w hs
 cases c with
 |region id ops draw=>
  cases draw with
  |true=>
   simp only[cCode,AC.er,if_true,cDraw,Option.bind_eq_some_iff]at hc
   obtain⟨_,_,hc⟩:=hc
   split at hc<;>cases hc
  |false=>
   simp only[cCode,AC.er,Bool.false_eq_true,if_false,Option.map_eq_some_iff,AC.reg.injEq]at hc
   obtain⟨steps',hsteps,rfl⟩:=hc
   refine wp_region ?_
   have key:=h ops (fun _=>0) (XB n w0 F0 R) [] ops.toList 0 (fun j hj=>by simp) (by simp) hsteps φ F a w hs fun a' w' s' l' K' φ' F' hT hs'=>⟨s',l',K',φ',F',hT,hs'⟩
   rw[List.append_nil]at key
   rw[List.range_eq_range']
   simpa using key
 |seq=>simp only[cCode,AC.er,Option.bind_eq_some_iff,Option.map_eq_some_iff]at hc;obtain⟨_,_,_,_,hc⟩:=hc;cases hc
 |cond=>simp only[cCode,AC.er,Option.bind_eq_some_iff,Option.map_eq_some_iff]at hc;obtain⟨_,_,_,_,_,_,hc⟩:=hc;cases hc
 |block=>simp only[cCode,AC.er,Option.map_eq_some_iff]at hc;obtain⟨_,_,hc⟩:=hc;cases hc
 |loop=>simp only[cCode,AC.er,Option.map_eq_some_iff]at hc;obtain⟨_,_,hc⟩:=hc;cases hc
 |_=>cases hc
theorem WB.drawR{steps:List AStep}{st:AStep}{x' y':O}{K1:St→Prop}(hst:st.op= .store m x' y')(hg:st.guard=none)(hd:st.dst=none)(hall:∀j,j<steps.length→j∈st.bef)(hne:0<steps.length)
 (hv:vcD P s.heap steps 0 s.slots [] K1) (hT:∀s',K1 s'→Tell n w0 F0 (RawAt m x' y' (R .normal)) s' l K):WB P n w0 F0 (.regd (steps++[st])) R s l K:=by
 intro c hc φ F a w hs
 cases c with
 |region id ops draw=>
  cases draw with
  |false=>
   simp only[cCode,AC.er,Bool.false_eq_true,if_false,Option.map_eq_some_iff]at hc
   obtain⟨_,_,hc⟩:=hc;cases hc
  |true=>
   simp only[cCode,AC.er,if_true,cDraw,Option.bind_eq_some_iff]at hc
   obtain⟨steps',hsteps,hc⟩:=hc
   split at hc
   ·rename_i hB
    cases hc
    simp only[Bool.and_eq_true]at hB
    refine wp_region_any hB.2 ?_
    have hdr:=drawB_ok hsteps hB.1
    have hsz:ops.size≠0:=by have:=hdr.len;simp at this;omega
    obtain⟨ops0,o,rfl⟩:=Array.eq_push_of_size_ne_zero hsz
    have hlen:steps.length=ops0.size:=by have:=hdr.len;simp at this;exact this
    have stp0:Stp φ F (hp s.heap) w φ F (hp s.heap) {w with drawn:=w.drawn+1}:=⟨fun b hb=>⟨hb,rfl⟩,fun id=>BStp.same rfl fun _ _ _=>rfl⟩
    have fr0:Fr φ F w φ F {w with drawn:=w.drawn+1}:=⟨Nat.le_refl _,fun _ _ _=>rfl,fun id b o hi=> .inl ⟨id,o,hi⟩,fun b hb=> .inl hb,⟨rfl,rfl⟩⟩
    have hs1:SRel n φ F s a {w with drawn:=w.drawn+1}:=
     ⟨hs.rel.size,hs.rel.defers,⟨fun id blk hb=>BRep.mono stp0 rfl (fun _ _ _=>rfl) (hs.rel.rel.blk id blk hb),hs.rel.rel.dom,hs.rel.rel.inj,hs.rel.rel.frz⟩,fun t av ht=>(hs.rel.slot t av ht).mono stp0⟩
    have hs2:=hs.step hs1 fr0 stp0.m (lks_bound K)
    rw[Array.size_push,show Array.replicate (ops0.size+1) false=(Array.replicate ops0.size false).push false by apply Array.ext_getElem?;intro j;rw[Array.getElem?_push,Array.getElem?_replicate,Array.getElem?_replicate];simp only[Array.size_replicate];split<;>split<;>(try split)<;>first|rfl|omega]
    refine wpAny_last (n:=n) hdr hd (fun j hj=>hall j (by omega)) (by omega) ops0.size _ a _ (by simp) (by simp[Array.count_replicate]) (fun i x hi=>by rw[Array.getElem?_replicate]at hi;split at hi<;>cases hi) ?_
    refine region_draw_sound (m:=K.foldr (fun x m=>max (x.2.1+1) m) 0) (hdr.pop hd) hv hs1 fun a' w' hp'=>?_
    obtain⟨s',φ',F',hK,q2,q3,q4⟩:=hp'
    obtain⟨s2,l2,K2,φ2,F2,hraw,h5⟩:=hT s' hK φ' F' a' w' (hs2.step q2 q3 q4 (lks_bound K))
    obtain⟨id2,ep,row,rows,r,ds,v,e1,e2,e3,e4,e4',e5,e6,hR⟩:=hraw
    show wpOp P (ops0.push o) (XB n w0 F0 R) ops0.size (fun a w=>XB n w0 F0 R .normal a w) a' w'
    obtain⟨st',h1,hdn,hop,hdst,hguard⟩:=hdr.step ops0.size o (by simp)
    rw[←hlen,List.getElem?_append_right (Nat.le_refl _),Nat.sub_self]at h1
    cases h1
    rw[hst]at hop
    obtain⟨t,x,y,p1,p2,p3,p4⟩:=store_inv hop
    have hrun:=snd_storeR (K:=fun out=>out=⟨none,[(id2,.arr ep m (rows.set row ds))]⟩) h5.rel p1 p2 p3 p4 e1 e2 e3 e4 e4' e5 e6 rfl
    have hwp:=hrun.wp (XB n w0 F0 R)
    unfold wpOp
    rw[show(ops0.push o)[ops0.size]? =some o by simp]
    cases hgo:o.guard with
    |some g=>
     obtain⟨g,want⟩:=g
     rw[hgo]at hguard
     obtain⟨d,_,_,hguard⟩:=hguard
     rw[hg]at hguard;cases hguard
    |none=>
     simp only[Region.wanted,hgo,if_true]
     refine .inl (Oper.wp_mono ?_ hwp)
     rintro a2 w2 ⟨v,rfl,⟨⟨out,φ3,F3,rfl,hav,hr,hs3,hf⟩⟩⟩
     have hput:=h5.rel.put hdn hav hr hs3
     have hod:o.dst=none:=by rw[←hdst,hd]
     rw[hod]at hput⊢
     exact⟨_,l2,K2,φ3,F3,hR,h5.step hput hf hs3.m (lks_bound K2)⟩
   ·cases hc
 |seq=>simp only[cCode,AC.er,Option.bind_eq_some_iff,Option.map_eq_some_iff]at hc;obtain⟨_,_,_,_,hc⟩:=hc;cases hc
 |cond=>simp only[cCode,AC.er,Option.bind_eq_some_iff,Option.map_eq_some_iff]at hc;obtain⟨_,_,_,_,_,_,hc⟩:=hc;cases hc
 |block=>simp only[cCode,AC.er,Option.map_eq_some_iff]at hc;obtain⟨_,_,hc⟩:=hc;cases hc
 |loop=>simp only[cCode,AC.er,Option.map_eq_some_iff]at hc;obtain⟨_,_,hc⟩:=hc;cases hc
 |_=>cases hc
end
end Go.Fw
namespace Go.Fw
def okz:Value→Bool
 | .slice none 0 (_+1)=>false
 |_=>true
def zeroOk(P:Program):Prop:=∀e z,(P.info? e).bind (·.zero)=some z→z.cells.toList.all okz=true
theorem mk_inv{P:Program}{op:Op}{m bytes:Nat}{zero:List D}{x' y':O}(h:cOp P op=some (.mk m bytes zero x' y')):∃t x y e,op= .makeSlice t x y∧P.underlying t=some (.slice e)∧okElem P e=some (m,bytes,zero)∧cO x=some x'∧cO y=some y':=by
 by_cases hs:∃t x y,op= .makeSlice t x y
 ·obtain⟨t,x,y,rfl⟩:=hs
  simp only[cOp]at h
  split at h
  ·rename_i e he
   simp only[Option.bind_eq_some_iff,Option.map_eq_some_iff,AOp.mk.injEq]at h
   obtain⟨z,hz,a,ha,b,hb,rfl,rfl,rfl,rfl,rfl⟩:=h
   exact⟨t,x,y,e,rfl,he,hz,ha,hb⟩
  ·cases h
 ·exfalso
  unfold cOp at h
  split at h
  case h_6=>exact hs ⟨_,_,_,rfl⟩
  all_goals(clear hs)
  all_goals(try(
   rw[Option.bind_eq_some_iff]at h
   obtain⟨a,_,h2⟩:=h
   split at h2
   ·rename_i hh;cases h2;cases hh
   ·cases h2))
  all_goals(revert h)
  all_goals(first|(simp[Option.bind_eq_some_iff,Option.map_eq_some_iff];done)|skip)
  all_goals(repeat' split)
  all_goals simp[Option.bind_eq_some_iff,Option.map_eq_some_iff]
section
variable {P:Program} {o:Oper} {a:Act} {φ:Phi} {F:Nat→Prop} {s:St} {w:World} {K:Out→Prop} {n:Nat}
theorem zeroRowsR{z:Value}(hz:z.cells.toList.all isCell=true){sz:Nat}(hsz:z.cells.size=sz)(m:Nat):RowsAt w F (Builtin.zeroCells z.cells m).toList 0 sz (List.replicate m (z.cells.toList.map .v)):=by
 obtain⟨h1,h2,h3⟩:=zeroRows (w:=w) (F:=F) hz hsz m
 refine⟨by simpa using h1,fun row hr=>by rw[(List.mem_replicate.1 hr).2];simp[hsz],fun i row hi j d hj=>?_⟩
 rw[List.getElem?_replicate]at hi
 split at hi
 ·rename_i him
  cases hi
  simp only[List.getElem?_map,Option.map_eq_some_iff]at hj
  obtain⟨v,hv,rfl⟩:=hj
  have hjl:j<sz:=by have:=(List.getElem?_eq_some_iff.1 hv).1;simp only[Array.length_toList]at this;omega
  have him':i*sz+sz≤m*sz:=by have:=Nat.mul_le_mul_right sz him;rw[Nat.succ_mul]at this;exact this
  refine⟨v,?_,DRep.v _ (List.all_eq_true.1 hz v (List.mem_of_getElem? hv))⟩
  simp only[Builtin.zeroCells,Array.toList_map,Array.toList_range,List.getElem?_map,hsz]
  rw[List.getElem?_range (by omega)]
  simp only[Option.map_some,Option.some.injEq,Nat.zero_add]
  have:(i*sz+j)%sz=j:=by rw[Nat.mul_comm,Nat.mul_add_mod];exact Nat.mod_eq_of_lt hjl
  rw[this]
  have h2:z.cells[j]? =some v:=by simpa using hv
  simp[getElem!_def,h2]
 ·cases hi
theorem mk_soundR(h:SRel n φ F s a w){t e:TypeId}{x y:Operand}(ho:o.op= .makeSlice t x y)(hu:P.underlying t=some (.slice e)){sz bytes:Nat}(hs:szT P e=some sz)(hb:(P.info? e).map (·.bytes)=some bytes)(hbl:bytes≤16384)
 {z:Value} (hz:(P.info? e).bind (·.zero)=some z) (hzl:z.cells.size=sz) (hzc:z.cells.toList.all isCell=true) {x' y':O} (hx:cO x=some x') (hy:cO y=some y') {k1 k2:IntKind} {l c:Nat} (hcx:s.evV x'=some (.int k1 l)) (hcy:s.evV y'=some (.int k2 c))
 (hlc:l≤c) (hc:c≤4294967296) (hk:K ⟨some (.one (.c (.own s.heap.length 0 0 l none))),[(s.heap.length,.arr 0 sz (List.replicate l (z.cells.toList.map .v)))]⟩):OpRun P o a φ F s w K:=by
 have h1:=evV_rep h hx hcx
 have h2:=evV_rep h hy hcy
 obtain⟨i,hi,hib⟩:=Option.map_eq_some_iff.1 hb
 have hR:RowsAt w F (Builtin.zeroCells z.cells c).toList 0 sz (List.replicate c (z.cells.toList.map .v)):=zeroRowsR hzc hzl c
 have hR2:=hR.take l
 have:(List.replicate c (z.cells.toList.map D.v)).take l=List.replicate l (z.cells.toList.map D.v):=by simp[hlc]
 rw[this]at hR2
 have hlenc:(Builtin.zeroCells z.cells c).toList.length=c*sz:=by rw[Array.length_toList,zeroCells_len,hzl]
 have hres:=OpRes.fresh (K:=K) (id:=s.heap.length) (e':=0) (off':=0) (len:=l) (k:=c) (T:=e) (w':={w with heap:=w.heap.push (.cells (Builtin.zeroCells z.cells c) e (0,0))}) h.rel (.inl (hp_len _)) hR2 (by simp) hlc (by rw[hlenc];omega) (by simp) (Io.push rfl rfl rfl) hk
 refine⟨_,_,.inl ?_,hres⟩
 refine exec_v (x:=Instr.makeSlice t (a.eval x) (a.eval y)) (by simp only[execOp,ho]) ?_
 have w1:IntKind.i64.wrap (l:Int)=l:=by simp[IntKind.wrap,IntKind.bits,IntKind.signed];omega
 have w2:IntKind.i64.wrap (c:Int)=c:=by simp[IntKind.wrap,IntKind.bits,IntKind.signed];omega
 have hbc:(bytes:Int)*c≤16384*4294967296:=by
  have h0:bytes*c≤16384*4294967296:=Nat.mul_le_mul hbl hc
  rw[←Int.natCast_mul];omega
 simp only[Instr.makeSlice,run_bind,run_underlying hu,h1,h2,asInt,asIntOf,run_pure,run_typeInfo hi,w1,w2,hib]
 rw[if_neg (by
  simp only[Bool.or_eq_true,decide_eq_true_eq,not_or]
  refine⟨⟨⟨by omega,by omega⟩,by omega⟩,by omega⟩)]
 have hask:∀(m:Nat) (w:World),(askRoom m).run P w= .ok () w:=by
  intro m w;unfold askRoom;split<;>rfl
 simp only[run_bind,hask,run_sizeOf hs,Int.toNat_natCast]
 by_cases h0:c*sz=0
 ·simp only[h0,if_true,run_pure,newRow,run_bind,run_newObj]
  have:Builtin.zeroCells z.cells c= #[]:=by
   apply Array.eq_empty_of_size_eq_zero;rw[zeroCells_len,hzl];exact h0
  rw[this,Nat.zero_mul,show(Array.range 0)= #[]from rfl,List.map_toArray,List.map_nil]
 ·simp only[h0,if_false,run_bind,run_zeroValue hz,run_pure,newRow,run_newObj]
  congr 3
  ·simp
  ·congr 2
   simp only[Builtin.zeroCells,hzl]
end
section
variable {P:Program} {n:Nat} {w0:World} {F0:Nat→Prop} {s:St} {l:List (Option AE)} {K:Lks}
theorem WS.mk{st:AStep}{d bytes k c:Nat}{x' y':O}{k1 k2:IntKind}{T:St→List (Option AE)→Lks→Prop}(hz:zeroOk P)(hst:st.op= .mk 1 bytes [.sl []] x' y')(hg:st.guard=none)(hd:st.dst=some d)
 (hcx:s.evV x'=some (.int k1 k)) (hcy:s.evV y'=some (.int k2 c)) (hlc:k≤c) (hc:c≤4294967296)
 (h:T ⟨(d,.one (.c (.own s.heap.length 0 0 k none)))::s.slots,hset s.heap s.heap.length (.arr 0 1 (List.replicate k [.v (.slice none 0 0)]))⟩ l K):WS P n w0 F0 [st] T s l K:=by
 intro ops mask Q rest0 os kk h1 h2 h3 φ F a w h5 hQ
 have hlen:=steps_len _ _ _ _ _ h3
 obtain⟨o,rfl⟩:=List.length_eq_one_iff.1 hlen.symm
 simp only[cStepsFrom,Option.bind_eq_some_iff,Option.map_eq_some_iff]at h3
 obtain⟨st',hst',_,_,hcons⟩:=h3
 cases hcons
 obtain⟨hdn,hop,hdst,_,_,hguard⟩:=cStep_parts hst'
 have hoo:ops[kk]? =some o:=by have:=h1 0 (by simp);simpa using this.symm
 rw[hst]at hop
 obtain⟨t,x,y,e,q1,q2,q3,q4,q5⟩:=mk_inv hop
 unfold okElem at q3
 split at q3
 ·rename_i sz by_ z e1 e2 e3
  split at q3
  ·rename_i hcond
   simp only[Option.some.injEq,Prod.mk.injEq]at q3
   obtain⟨rfl,rfl,hzr⟩:=q3
   have hzz:z.cells.toList.map D.v=[.v (.slice none 0 0)]:=by
    have hall:=hz e z e3
    unfold zrow at hzr
    match hq:z.cells.toList,hzr,hall with
    |[v],hzr,hall=>
     simp only[List.map_cons,List.map_nil,List.cons.injEq,and_true]at hzr
     simp only[List.all_cons,List.all_nil,Bool.and_true]at hall
     unfold nrm at hzr
     split at hzr
     ·rename_i k heq
      cases heq
      cases k with
      |zero=>rfl
      |succ k=>simp[okz]at hall
     ·cases hzr
    |[],hzr,_=>cases hzr
    |_::_::_,hzr,_=>simp at hzr
   have hrun:=mk_soundR (K:=fun out=>out=⟨some (.one (.c (.own s.heap.length 0 0 k none))),[(s.heap.length,.arr 0 1 (List.replicate k [.v (.slice none 0 0)]))]⟩) h5.rel q1 q2 e1 e2 hcond.2.1 e3 hcond.1 hcond.2.2 q4 q5 hcx hcy hlc hc (by rw[hzz])
   have hwp:=hrun.wp Q
   show wpOps P ops Q (kk::rest0) a w
   rw[wpOps_cons]
   unfold wpOp
   rw[hoo]
   cases hgo:o.guard with
   |some g=>
    rw[hgo]at hguard
    obtain⟨d,_,_,hguard⟩:=hguard
    rw[hg]at hguard;cases hguard
   |none=>
    simp only[Region.wanted,hgo,if_true]
    refine .inl (Oper.wp_mono ?_ hwp)
    rintro a2 w2 ⟨v,rfl,⟨⟨out,φ3,F3,rfl,hav,hr,hs3,hf⟩⟩⟩
    have hput:=h5.rel.put hdn hav hr hs3
    have hod:o.dst=some d:=by rw[←hdst,hd]
    rw[hod]at hput⊢
    exact hQ _ _ _ l K φ3 F3 h (h5.step hput hf hs3.m (lks_bound K))
  ·cases q3
 ·cases q3
end
def eRaw(d:D):List D:=[d]
def isNil:D→Bool
 | .v (.slice none 0 0)=>true
 |_=>false
theorem isNil_eq{d:D}(h:isNil d=true):d= .v (.slice none 0 0):=by
 unfold isNil at h
 split at h
 ·rfl
 ·cases h
def rdN(xs:List D)(j:Int):Option Unit:=(rdI xs j).bind fun y=>if isNil y=true then some ()else none
theorem rdN_some{xs:List D}{j:Int}{u:Unit}(h:rdN xs j=some u):rdI xs j=some (.v (.slice none 0 0)):=by
 unfold rdN at h
 obtain⟨y,hy,h⟩:=Option.bind_eq_some_iff.1 h
 split at h
 ·rename_i hn;rw[hy,isNil_eq hn]
 ·cases h
end Go.Fw
namespace Go.Fw
def goodI(i:TypeInfo):Prop:=∀z,i.zero=some z→z.cells.toList.all okz=true
theorem forIn_inv{α β:Type}{f:α→β→Option (ForInStep β)}(I:β→Prop)(hs:∀a b r,I b→f a b=some r→I r.value):∀(l:List α) (b r:β),I b→forIn l b f=some r→I r
 |[],b,r,h,e=>by cases e;exact h
 |a::l,b,r,h,e=>by
  rw[List.forIn_cons]at e
  obtain⟨x,h1,h2⟩:=Option.bind_eq_some_iff.1 e
  have:=hs a b x h h1
  cases x with
  |done y=>cases h2;exact this
  |yield y=>exact forIn_inv I hs l y r this h2
theorem reckonStruct_good{info:TypeId→Option TypeInfo}(hi:∀t i,info t=some i→goodI i){fs:Array Field}{i:TypeInfo}(h:Made.reckonStruct info fs=some i):goodI i:=by
 unfold Made.reckonStruct at h
 obtain⟨r,h1,h2⟩:=Option.bind_eq_some_iff.1 h
 rw[←Array.forIn_toList]at h1
 have hI:=forIn_inv (fun r=>∀a,r.2.2.2.2.2.2.2.1=some a→a.toList.all okz=true) (fun f b r hb hr=>?_) _ _ _ (by intro a ha;cases ha;rfl) h1
 ·intro z hz
  have key:i.zero=Option.map Value.agg r.2.2.2.2.2.2.2.1:=by
   simp only at h2
   split at h2<;>(cases h2;rfl)
  rw[key]at hz
  obtain⟨a,ha,rfl⟩:=Option.map_eq_some_iff.1 hz
  exact hI a ha
 ·obtain⟨j,hj,hr⟩:=Option.bind_eq_some_iff.1 hr
  have hz:∀(p:Prop) [Decidable p] (a:Array Value),(if p then none else(b.2.2.2.2.2.2.2.1.bind fun x=>j.zero.bind fun y=>some (x++y.cells)))=some a→a.toList.all okz=true:=by
   intro p _ a ha
   split at ha
   ·cases ha
   ·obtain⟨x,hx,ha⟩:=Option.bind_eq_some_iff.1 ha
    obtain⟨y,hy,ha⟩:=Option.bind_eq_some_iff.1 ha
    cases ha
    have h1:=hb x hx
    have h2:=hi _ _ hj y hy
    simp only[Array.toList_append,List.all_append,Bool.and_eq_true]
    exact⟨h1,h2⟩
  simp only at hr
  split at hr
  ·cases hr
  ·split at hr
   ·cases hr
   ·split at hr
    ·split at hr<;>(cases hr;exact fun a ha=>hz _ a ha)
    ·obtain⟨tag,_,hr⟩:=Option.bind_eq_some_iff.1 hr
     split at hr<;>(cases hr;exact fun a ha=>hz _ a ha)
theorem reckon_good{info:TypeId→Option TypeInfo}(hi:∀t i,info t=some i→goodI i){d:TypeDesc}{i:TypeInfo}(h:Made.reckon info d=some i):goodI i:=by
 unfold Made.reckon at h
 split at h
 case h_7=>exact reckonStruct_good hi h
 ·obtain⟨j,hj,h⟩:=Option.bind_eq_some_iff.1 h
  split at h
  ·cases h
  ·split at h
   ·cases h
   ·obtain⟨_,_,h⟩:=Option.bind_eq_some_iff.1 h
    cases h;intro z hz;cases hz;rfl
  ·obtain⟨_,_,h⟩:=Option.bind_eq_some_iff.1 h
   cases h;intro z hz;cases hz;rfl
 ·obtain⟨_,_,h⟩:=Option.bind_eq_some_iff.1 h
  obtain⟨_,_,h⟩:=Option.bind_eq_some_iff.1 h
  cases h;intro z hz;cases hz;rfl
 ·obtain⟨_,_,h⟩:=Option.bind_eq_some_iff.1 h
  obtain⟨_,_,h⟩:=Option.bind_eq_some_iff.1 h
  obtain⟨_,_,h⟩:=Option.bind_eq_some_iff.1 h
  obtain⟨_,_,h⟩:=Option.bind_eq_some_iff.1 h
  cases h;intro z hz;cases hz;rfl
 ·obtain⟨_,_,h⟩:=Option.bind_eq_some_iff.1 h
  obtain⟨_,_,h⟩:=Option.bind_eq_some_iff.1 h
  cases h;intro z hz;cases hz;rfl
 ·obtain⟨_,_,h⟩:=Option.bind_eq_some_iff.1 h
  cases h;intro z hz;cases hz;rfl
 ·obtain⟨j,hj,h⟩:=Option.bind_eq_some_iff.1 h
  obtain⟨_,_,h⟩:=Option.bind_eq_some_iff.1 h
  cases h;intro z hz
  simp only at hz
  split at hz
  ·cases hz
  ·split at hz
   ·cases hz;rfl
   ·obtain⟨z0,hz0,rfl⟩:=Option.map_eq_some_iff.1 hz
    have:=hi _ _ hj z0 hz0
    have e:∀n:Nat,(Value.agg ((Array.replicate n z0.cells).flatten)).cells=(Array.replicate n z0.cells).flatten:=fun _=>rfl
    rw[e,Array.toList_flatten,List.all_flatten]
    simp only[List.all_map,Array.toList_replicate,List.all_eq_true,Function.comp]
    intro x hx
    rw[(List.mem_replicate.1 hx).2]
    exact fun v hv=>List.all_eq_true.1 this v hv
 ·cases h
theorem infoAt_good{T:Tables}(h:∀(t:Nat) i,T.types[t]? =some i→goodI i):∀(f:Nat) (t:TypeId) i,Made.infoAt T f t=some i→goodI i
 |0,t,i,e=>by cases e
 |f+1,t,i,e=>by
  rw[Made.infoAt]at e
  split at e
  ·exact h _ _ e
  ·obtain⟨d,_,e⟩:=Option.bind_eq_some_iff.1 e
   exact reckon_good (infoAt_good h f) e
def zeroI(i:TypeInfo):Bool:=match i.zero with
 |some z=>z.cells.toList.all okz
 |none=>true
theorem zeroOk_of{P:Program}(h:P.types.all zeroI=true):zeroOk P:=by
 have h0:∀(t:Nat) i,P.types[t]? =some i→goodI i:=fun t i ht z hz=>by
  obtain⟨hlt,rfl⟩:=Array.getElem?_eq_some_iff.1 ht
  have:=Array.all_eq_true.1 h t hlt
  unfold zeroI at this
  rw[hz]at this;exact this
 intro e z hz
 obtain⟨i,h1,h2⟩:=Option.bind_eq_some_iff.1 hz
 have h3:Tables.info? P.toTables e=some i:=h1
 unfold Tables.info? at h3
 split at h3
 ·exact h0 _ _ h3 z h2
 ·exact infoAt_good (T:=P.toTables) h0 _ _ _ h3 z h2
end Go.Fw
