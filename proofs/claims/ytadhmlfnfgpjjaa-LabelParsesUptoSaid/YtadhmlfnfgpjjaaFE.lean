/- Contracts of slices.Clone, slices.Insert, slices.Delete, and of the compare of strings. -/
import Derived.Test.YtadhmlfnfgpjjaaFP
import Derived.Lib.Bytealg
import Derived.Laws.Externs
import Derived.Shelf.Sort.Plain
import Derived.Shelf.Slices.In.SortNone
import Derived.Shelf.Slices.CompactS
import Derived.Lib.RowBridge
import Derived.Shelf.Strings.Search3
import Derived.Shelf.Strings.OnBuilder
set_option linter.unusedVariables false
set_option linter.unusedSimpArgs false
set_option linter.unusedSectionVars false
namespace Go.Fw
set_option maxRecDepth 100000
set_option maxHeartbeats 4000000
def C0:=PLift.up (And.intro (And.intro (And.intro (And.intro @envH_nil (And.intro @WrOk_nil @WrOk_lone)) (And.intro @nb_true (And.intro @nb_false @nb_dec))) (And.intro (And.intro @apply_some (And.intro @apply_none @apply_skip)) (And.intro @putSlot_some (And.intro @putSlot_none @setB.eq_1)))) (And.intro (And.intro (And.intro @argSlots.eq_1 (And.intro @argSlots.eq_2 @St.ev.eq_1)) (And.intro @St.ev.eq_2 (And.intro @St.ev.eq_3 @St.evC.eq_1))) (And.intro (And.intro @St.evV.eq_1 (And.intro @lk.eq_1 @lk.eq_2)) (And.intro @wrs.eq_1 (And.intro @wrs.eq_2 @allW.eq_1)))))
def C1:=PLift.up (And.intro (And.intro (And.intro (And.intro @allW.eq_2 (And.intro @ret.eq_1 @retV.eq_1)) (And.intro @evL.eq_1 (And.intro @evL.eq_2 @capL.eq_1))) (And.intro (And.intro @capL.eq_2 (And.intro @intV.eq_1 @intV.eq_2)) (And.intro @bldL.eq_1 (And.intro @bldL.eq_2 @frzL.eq_1)))) (And.intro (And.intro (And.intro @frzL.eq_2 (And.intro @frzL.eq_3 @frzRL.eq_1)) (And.intro @frzRL.eq_2 (And.intro @rowsL.eq_1 @rowsL.eq_2))) (And.intro (And.intro @rowsL.eq_3 (And.intro @kSt.eq_1 @if_true.{1})) (And.intro @if_true.{0} (And.intro @if_false.{1} @if_false.{0})))))
def C2:=PLift.up (And.intro (And.intro (And.intro (And.intro @binK.eq_1 (And.intro @binK.eq_2 @binK.eq_3)) (And.intro @binK.eq_4 (And.intro @binK.eq_5 @binK.eq_6))) (And.intro (And.intro @binK.eq_7 (And.intro @binK.eq_8 @binK.eq_9)) (And.intro @binK.eq_10 (And.intro @binK.eq_11 @binK.eq_12)))) (And.intro (And.intro (And.intro @binK.eq_13 (And.intro @binK.eq_14 @binK.eq_15)) (And.intro @binK.eq_16 (And.intro @binK.eq_18 @binK.eq_19))) (And.intro (And.intro @binK.eq_20 (And.intro @binK.eq_21 @binK.eq_22)) (And.intro @binK.eq_23 (And.intro @binK.eq_24 @true_and)))))
def C3:=PLift.up (And.intro (And.intro (And.intro (And.intro @and_true (And.intro @decide_eq_true_eq @decide_eq_false_iff_not)) (And.intro @List.length_map.{0,0} (And.intro @Int.toNat_natCast @ldC.eq_1))) (And.intro (And.intro @ldC.eq_2 (And.intro @ldC.eq_3 @List.map_cons.{0,0})) (And.intro @List.map_nil.{0,0} (And.intro @List.length_cons.{0} @List.length_nil.{0})))) (And.intro (And.intro (And.intro @List.take_succ_cons.{0} (And.intro @List.take_zero.{0} @A1.cells.eq_1)) (And.intro @A1.cells.eq_2 (And.intro @hset.eq_1 @hset.eq_2))) (And.intro (And.intro @hset.eq_3 (And.intro @hset.eq_4 @hp.eq_1)) (And.intro @splice.eq_1 (And.intro @List.getElem?_cons_zero.{0} @List.getElem?_cons_succ.{0})))))
def C4:=PLift.up (And.intro (And.intro (And.intro (And.intro @Option.join_some.{0} (And.intro @List.drop_succ_cons.{0} @List.drop_zero.{0})) (And.intro @Nat.zero_add (And.intro @List.nil_append.{0} @List.cons_append.{0}))) (And.intro (And.intro @List.append_nil.{0} (And.intro @List.drop_nil.{0} @Nat.le_refl)) (And.intro @clipC.eq_1 (And.intro @eqCells.eq_1 @eqCells.eq_2)))) (And.intro (And.intro (And.intro @eqCell.eq_1 (And.intro @eqCell.eq_2 @eqCell.eq_3)) (And.intro @eqB_t (And.intro @eqB_f @dec_and))) (And.intro (And.intro @and_t (And.intro @NilK_f @NilK_t)) (And.intro @resS.eq_1 (And.intro @resS.eq_2 @resS.eq_3)))))
def C5:=PLift.up (And.intro (And.intro (And.intro (And.intro @List.isEmpty_iff.{0} (And.intro @cast1 @cast0)) (And.intro @toNat0 (And.intro @toNat1 @s1_mv))) (And.intro (And.intro sS_mv.down (And.intro @s1_pick sS_pick.down)) (And.intro @s1_box (And.intro sS_box.down @s1_zbox)))) (And.intro (And.intro (And.intro sS_zbox.down (And.intro @s1_build sS_build.down)) (And.intro @s1_bslice (And.intro sS_bslice.down @s1_load))) (And.intro (And.intro sS_load.down (And.intro @s1_store sS_store.down)) (And.intro @s1_fieldA (And.intro sS_fieldA.down @s1_field)))))
def C6:=PLift.up (And.intro (And.intro (And.intro (And.intro sS_field.down (And.intro @s1_indexA sS_indexA.down)) (And.intro @s1_sidx (And.intro sS_sidx.down @s1_slice))) (And.intro (And.intro sS_slice.down (And.intro @s1_sslice sS_sslice.down)) (And.intro @s1_fn (And.intro sS_fn.down @s1_app)))) (And.intro (And.intro (And.intro sS_app.down (And.intro @s1_appz sS_appz.down)) (And.intro @s1_copy (And.intro sS_copy.down @s1_clear))) (And.intro (And.intro sS_clear.down (And.intro @s1_mk sS_mk.down)) (And.intro @s1_call (And.intro sS_call.down @s1_callv)))))
def C7:=PLift.up (And.intro (And.intro (And.intro (And.intro sS_callv.down (And.intro @s1_ext sS_ext.down)) (And.intro @s1_len (And.intro sS_len.down @s1_slen))) (And.intro (And.intro sS_slen.down (And.intro @s1_cap sS_cap.down)) (And.intro @s1_bin (And.intro sS_bin.down @s1_eqnil)))) (And.intro (And.intro (And.intro @s1_not (And.intro sS_not.down @s1_beq)) (And.intro sS_beq.down (And.intro @s1_neg sS_neg.down))) (And.intro (And.intro @s1_max (And.intro sS_max.down @s1_min)) (And.intro sS_min.down (And.intro @s1_mins sS_mins.down)))))
def C8:=PLift.up (And.intro (And.intro (And.intro (And.intro @minL.eq_1 (And.intro @minL.eq_2 @s1_conv)) (And.intro sS_conv.down (And.intro @s1_istr sS_istr.down))) (And.intro (And.intro @s1_eqs (And.intro sS_eqs.down @sS_eqnil)) (And.intro @qkOps_eq (And.intro @qvcOps_nil @qvcOps_none)))) (And.intro (And.intro (And.intro @qvcOps_some (And.intro @qgOps_11 @qgOps_00)) (And.intro @qgOps_10 (And.intro @qgOps_01 @qkD_nil))) (And.intro (And.intro @qvcD_nil (And.intro @qvcD_none @qvcD_some)) (And.intro @qgD_11 (And.intro @qgD_00 @qgD_10)))))
def C9:=PLift.up (And.intro (And.intro (And.intro (And.intro @qgD_01 (And.intro @qPickK_1 @qPickK_0)) (And.intro @qvc_skip (And.intro @qvc_reg @qvc_regd))) (And.intro (And.intro @qvc_seq (And.intro @qvc_block @qvc_loop)) (And.intro @qvc_sem (And.intro @qvc_exit @qvc_ret)))) (And.intro (And.intro (And.intro @qvc_cond (And.intro @qcnd_1 @qcnd_0)) (And.intro @qnrmK_seq (And.intro @qnrmK_blk @qnrmK_nil))) (And.intro (And.intro @qunw_exit_seq (And.intro @qunw_exit_blk @qunw_exit_nil)) (And.intro @qunw_ret_seq (And.intro @qunw_ret_blk @qunw_ret_nil)))))
def C10:=PLift.up (And.intro (And.intro (And.intro (And.intro @qloopQ_exit @qloopQ_ret) (And.intro @qE_ret @qE_norm)) (And.intro (And.intro @qkD_lone @skipOut.eq_1) (And.intro @ap_nil (And.intro @ap_cons @apS_own)))) (And.intro (And.intro (And.intro @apS_pt @apS_pe) (And.intro @apS_d (And.intro @apS_fp @apS_fn))) (And.intro (And.intro @wa_nil @wa_cons) (And.intro @Bool.and_true (And.intro @Bool.true_and @Bool.not_false)))))
def CC:=PLift.up (And.intro (And.intro (And.intro C0.down C1.down) (And.intro C2.down (And.intro C3.down C4.down))) (And.intro (And.intro C5.down (And.intro C6.down C7.down)) (And.intro C8.down (And.intro C9.down C10.down))))
def insertA(sz bt:Nat)(z:List D)(g:FuncId)(rr:FuncId):AFn:=⟨95,[(.tmp 6)],
 (.seq (.reg [⟨(some 6),none,.mv kN,[],(.new [])⟩])
 (.seq (.reg [⟨(some 10),none,.mv (.t 0),[],(.new [])⟩,
   ⟨(some 11),none,.mv (.t 1),[],(.new [])⟩,
   ⟨(some 12),none,.slice sz (.t 10) (some (.t 11)) none none,[],(.new [])⟩])
 (.seq (.reg [⟨(some 13),none,.mv (.t 2),[],(.new [])⟩,
   ⟨(some 14),none,.len (.t 13),[],(.new [])⟩,
   ⟨(some 7),none,.mv (.t 14),[],(.new [])⟩])
 (.seq (.seq (.reg [⟨(some 15),none,.mv (.t 7),[],(.new [])⟩,
   ⟨(some 16),none,.bin .eql (.t 15) (kI 0),[],(.new [])⟩])
 (.cond (.t 16)
 (.seq (.reg [⟨(some 17),none,.mv (.t 0),[],(.new [])⟩,
   ⟨(some 6),none,.mv (.t 17),[],(.new [])⟩])
 .ret)
 .skip))
 (.seq (.reg [⟨(some 18),none,.mv (.t 0),[],(.new [])⟩,
   ⟨(some 19),none,.len (.t 18),[],(.new [])⟩,
   ⟨(some 8),none,.mv (.t 19),[],(.new [])⟩])
 (.seq (.seq (.reg [⟨(some 20),none,.mv (.t 1),[],(.new [])⟩,
   ⟨(some 21),none,.mv (.t 8),[],(.new [])⟩,
   ⟨(some 22),none,.bin .eql (.t 20) (.t 21),[],(.new [])⟩])
 (.cond (.t 22)
 (.seq (.reg [⟨(some 23),none,.mv (.t 0),[],(.new [])⟩,
   ⟨(some 24),none,.mv (.t 2),[],(.new [])⟩,
   ⟨(some 25),none,.app sz bt (.t 23) (.t 24),[],(.new [])⟩,
   ⟨(some 6),none,.mv (.t 25),[],(.new [])⟩])
 .ret)
 .skip))
 (.seq (.seq (.reg [⟨(some 26),none,.mv (.t 8),[],(.new [])⟩,
   ⟨(some 27),none,.mv (.t 7),[],(.new [])⟩,
   ⟨(some 28),none,.bin .add (.t 26) (.t 27),[],(.new [])⟩,
   ⟨(some 29),none,.mv (.t 0),[],(.new [])⟩,
   ⟨(some 30),none,.cap (.t 29),[],(.new [])⟩,
   ⟨(some 31),none,.bin .gtr (.t 28) (.t 30),[],(.new [])⟩])
 (.cond (.t 31)
 (.seq (.reg [⟨(some 32),none,.mv (.t 0),[],(.new [])⟩,
   ⟨(some 33),none,.mv (.t 1),[],(.new [])⟩,
   ⟨(some 34),none,.slice sz (.t 32) none (some (.t 33)) none,[],(.new [])⟩,
   ⟨(some 35),none,.mv (.t 8),[],(.new [])⟩,
   ⟨(some 36),none,.mv (.t 7),[],(.new [])⟩,
   ⟨(some 37),none,.bin .add (.t 35) (.t 36),[],(.new [])⟩,
   ⟨(some 38),none,.mv (.t 1),[],(.new [])⟩,
   ⟨(some 39),none,.bin .sub (.t 37) (.t 38),[],(.new [])⟩,
   ⟨(some 40),none,.appz sz bt z (.t 34) (.t 39),[],(.new [])⟩,
   ⟨(some 9),none,.mv (.t 40),[],(.new [])⟩])
 (.seq (.reg [⟨(some 41),none,.mv (.t 9),[],(.new [])⟩,
   ⟨(some 42),none,.mv (.t 1),[],(.new [])⟩,
   ⟨(some 43),none,.slice sz (.t 41) (some (.t 42)) none none,[],(.new [])⟩,
   ⟨(some 44),none,.mv (.t 2),[],(.new [])⟩,
   ⟨(some 45),none,.copy sz (.t 43) (.t 44),[],(.lone [41])⟩])
 (.seq (.regd [⟨(some 46),none,.mv (.t 9),[],(.new [])⟩,
   ⟨(some 47),none,.mv (.t 1),[],(.new [])⟩,
   ⟨(some 48),none,.mv (.t 7),[],(.new [])⟩,
   ⟨(some 49),none,.bin .add (.t 47) (.t 48),[1,2],(.new [])⟩,
   ⟨(some 50),none,.slice sz (.t 46) (some (.t 49)) none none,[0,1,2,3],(.new [])⟩,
   ⟨(some 51),none,.mv (.t 0),[],(.new [])⟩,
   ⟨(some 52),none,.mv (.t 1),[],(.new [])⟩,
   ⟨(some 53),none,.slice sz (.t 51) (some (.t 52)) none none,[5,6],(.new [])⟩,
   ⟨(some 54),none,.copy sz (.t 50) (.t 53),[0,1,2,3,4,5,6,7],(.lone [])⟩])
 (.seq (.reg [⟨(some 55),none,.mv (.t 9),[],(.new [])⟩,
   ⟨(some 6),none,.mv (.t 55),[],(.new [])⟩])
 .ret))))
 .skip))
 (.seq (.reg [⟨(some 56),none,.mv (.t 0),[],(.new [])⟩,
   ⟨(some 57),none,.mv (.t 8),[],(.new [])⟩,
   ⟨(some 58),none,.mv (.t 7),[],(.new [])⟩,
   ⟨(some 59),none,.bin .add (.t 57) (.t 58),[],(.new [])⟩,
   ⟨(some 60),none,.slice sz (.t 56) none (some (.t 59)) none,[],(.new [])⟩,
   ⟨(some 0),none,.mv (.t 60),[],(.new [])⟩])
 (.seq (.seq (.reg [⟨(some 61),none,.mv (.t 2),[],(.new [])⟩,
   ⟨(some 62),none,.mv (.t 0),[],(.new [])⟩,
   ⟨(some 63),none,.mv (.t 1),[],(.new [])⟩,
   ⟨(some 64),none,.mv (.t 7),[],(.new [])⟩,
   ⟨(some 65),none,.bin .add (.t 63) (.t 64),[],(.new [])⟩,
   ⟨(some 66),none,.slice sz (.t 62) (some (.t 65)) none none,[],(.new [])⟩,
   ⟨(some 67),none,.call g [(.t 61),(.t 66)],[],(.new [])⟩,
   ⟨(some 68),none,.not (.t 67),[],(.new [])⟩])
 (.cond (.t 68)
 (.seq (.regd [⟨(some 69),none,.mv (.t 0),[],(.new [])⟩,
   ⟨(some 70),none,.mv (.t 1),[],(.new [])⟩,
   ⟨(some 71),none,.mv (.t 7),[],(.new [])⟩,
   ⟨(some 72),none,.bin .add (.t 70) (.t 71),[1,2],(.new [])⟩,
   ⟨(some 73),none,.slice sz (.t 69) (some (.t 72)) none none,[0,1,2,3],(.new [])⟩,
   ⟨(some 74),none,.mv (.t 0),[],(.new [])⟩,
   ⟨(some 75),none,.mv (.t 1),[],(.new [])⟩,
   ⟨(some 76),none,.slice sz (.t 74) (some (.t 75)) none none,[5,6],(.new [])⟩,
   ⟨(some 77),none,.copy sz (.t 73) (.t 76),[0,1,2,3,4,5,6,7],(.lone [])⟩])
 (.seq (.reg [⟨(some 78),none,.mv (.t 0),[],(.new [])⟩,
   ⟨(some 79),none,.mv (.t 1),[],(.new [])⟩,
   ⟨(some 80),none,.slice sz (.t 78) (some (.t 79)) none none,[],(.new [])⟩,
   ⟨(some 81),none,.mv (.t 2),[],(.new [])⟩,
   ⟨(some 82),none,.copy sz (.t 80) (.t 81),[],(.lone [78])⟩])
 (.seq (.reg [⟨(some 83),none,.mv (.t 0),[],(.new [])⟩,
   ⟨(some 6),none,.mv (.t 83),[],(.new [])⟩])
 .ret)))
 .skip))
 (.seq (.reg [⟨(some 84),none,.mv (.t 0),[],(.new [])⟩,
   ⟨(some 85),none,.mv (.t 8),[],(.new [])⟩,
   ⟨(some 86),none,.slice sz (.t 84) (some (.t 85)) none none,[],(.new [])⟩,
   ⟨(some 87),none,.mv (.t 2),[],(.new [])⟩,
   ⟨(some 88),none,.copy sz (.t 86) (.t 87),[],(.lone [84])⟩])
 (.seq (.reg [⟨(some 89),none,.mv (.t 0),[],(.new [])⟩,
   ⟨(some 90),none,.mv (.t 1),[],(.new [])⟩,
   ⟨(some 91),none,.slice sz (.t 89) (some (.t 90)) none none,[],(.new [])⟩,
   ⟨(some 92),none,.mv (.t 7),[],(.new [])⟩,
   ⟨(some 93),none,.call rr [(.t 91),(.t 92)],[],(.lone [89])⟩])
 (.seq (.reg [⟨(some 94),none,.mv (.t 0),[],(.new [])⟩,
   ⟨(some 6),none,.mv (.t 94),[],(.new [])⟩])
 .ret))))))))))))⟩
theorem w1{n:Nat}(h:n≤4294967290):IntKind.i64.wrap ((n:Int)+1)=((n+1:Nat):Int):=wrapN (by omega)
theorem w2{n i:Nat}(h:n≤4294967290)(hi:i≤n):IntKind.i64.wrap (((n+1:Nat):Int)-i)=((n+1-i:Nat):Int):=by
 rw[wrapI (by omega) (by omega)];omega
section
variable {P:Program} {f g rr:FuncId} {sz bt:Nat} {z:List D}
theorem insert_spec(hf:afn P f=some (insertA sz bt z g rr))(hov:∀(e0 e1 o0 o1 l0 l1:Nat) (c0 c1:Option Nat) (r0 r1:List (List D)),CallD P g [.c (.own 0 e0 o0 l0 c0),.c (.own 1 e1 o1 l1 c1)] [some (.arr e0 sz r0),some (.arr e1 sz r1)] (.one (aB false)) [some (.arr e0 sz r0),some (.arr e1 sz r1)])(rows:List (List D))(x:List D)(i e e' n:Nat)(hn:rows.length=n)(hi:i≤n)(hl:n≤4294967290)(hs:RowsSz rows sz)(hx:x.length=sz):
 CallD P f [.c (.own 0 e 0 n none),aI i,.c (.own 1 e' 0 1 none)] [some (.arr e sz rows),some (.arr e' sz [x])] (.one (.c (.own 0 (e+1) 0 (n+1) none))) [some (.arr (e+1) sz (rows.take i++x::rows.drop i)),some (.arr e' sz [x])]:=by
 refine CallD.cap fun c hc=>?_
 refine callS (A:=insertA sz bt z g rr) (res:=[.c (.own 0 (e+1) 0 (n+1) none)]) hf (by simp[insertA]) ?_
 have e1:=w1 hl
 have e2:=w2 hl hi
 have e3:=w1 (n:=i) (by omega)
 simp only[insertA,CC.down,app1,wr1,Nat.reduceEqDiff,reduceCtorEq,Nat.reduceAdd,Nat.reduceLeDiff,Nat.reduceLT]
 refine⟨by omega,condN (by omega) ?_⟩
 simp only[CC.down,app1,wr1,Nat.reduceEqDiff,reduceCtorEq,Nat.reduceAdd,Nat.reduceLeDiff,Nat.reduceLT]
 refine condS (fun hin=>?_) (fun hin=>?_)
 ·have hin':i=n:=by omega
  subst hin'
  simp only[CC.down,app1,wr1,Nat.reduceEqDiff,reduceCtorEq,Nat.reduceAdd,Nat.reduceLeDiff,Nat.reduceLT]
  refine⟨by omega,?_⟩
  by_cases hcc:i+1≤c
  ·refine .inl ⟨by simpa using hcc,?_⟩
   simp only[CC.down,app1,wr1,Nat.reduceEqDiff,reduceCtorEq,Nat.reduceAdd,Nat.reduceLeDiff,Nat.reduceLT]
   refine fin_re [0,1] ?_ (by decide) ?_ ?_
   ·simp[reBs,reB,hp,hn]
   ·simp[keeps,keep1]
   ·simp[reAs,reA,reC,hp]<;>omega
  ·refine .inr ⟨by simp<;>omega,by simp<;>omega,?_⟩
   simp only[CC.down,app1,wr1,Nat.reduceEqDiff,reduceCtorEq,Nat.reduceAdd,Nat.reduceLeDiff,Nat.reduceLT]
   refine fin_re [2,1] ?_ (by decide) ?_ ?_
   ·simp[reBs,reB,hp,hn]
   ·simp[keeps,keep1]
   ·simp[reAs,reA,reC,hp]<;>omega
 ·simp only[e1,e2,e3,CC.down,app1,wr1,Nat.reduceEqDiff,reduceCtorEq,Nat.reduceAdd,Nat.reduceLeDiff,Nat.reduceLT]
  have m1:i+(n+1-i)=n+1:=by omega
  have m2:min 1 (n+1-i)=1:=by omega
  have m3:min 1 (n-i)=1:=by omega
  have m4:n+1-(i+1)=n-i:=by omega
  have m5:min (n-i) (n-i)=n-i:=by omega
  have m6:(rows.drop i).length=n-i:=by simp[hn]
  have m7:(rows.drop i).take (n-i)=rows.drop i:=List.take_of_length_le (by omega)
  have m8:(rows.take i).length=i:=by simp;omega
  have m9:∀z:List D,(rows.take i++List.replicate (n+1-i) z).take i=rows.take i:=fun z=>by
   rw[List.take_append_of_le_length (by omega),List.take_take,Nat.min_self]
  have m10:∀z:List D,(rows.take i++List.replicate (n+1-i) z).drop (i+1)=List.replicate (n-i) z:=fun z=>by
   rw[List.drop_append,m8,List.drop_of_length_le (by omega)];simp;omega
  have m11:∀z:List D,(rows.take i++[x]++List.replicate (n-i) z).take (i+1)=rows.take i++[x]:=fun z=>by
   rw[List.take_append_of_le_length (by simp;omega),List.take_of_length_le (by simp;omega)]
  have m12:∀z:List D,(rows.take i++[x]++List.replicate (n-i) z).drop (i+1+(n-i))=[]:=fun z=>List.drop_of_length_le (by simp;omega)
  refine condS (fun hcap=>?_) (fun hcap=>?_)
  ·simp only[e1,e2,e3,Nat.sub_zero,CC.down,app1,wr1,Nat.reduceEqDiff,reduceCtorEq,Nat.reduceAdd,Nat.reduceLeDiff,Nat.reduceLT]
   refine⟨by omega,by omega,by omega,.inr ⟨by simp<;>omega,by simp<;>omega,?_⟩⟩
   simp only[e1,e2,e3,Nat.sub_zero,List.length_replicate,m1,m2,m4,m5,m8,m9,m10,Nat.add_sub_cancel_left,CC.down,app1,wr1,Nat.reduceEqDiff,reduceCtorEq,Nat.reduceAdd,Nat.reduceLeDiff,Nat.reduceLT]
   refine⟨by omega,by rw[List.length_append,List.length_replicate];omega,?_⟩
   simp only[e1,e2,e3,Nat.sub_zero,List.length_replicate,m1,m2,m4,m5,m6,m7,m8,m9,m10,m11,m12,Nat.add_sub_cancel_left,Nat.min_self,CC.down,app1,wr1,Nat.reduceEqDiff,reduceCtorEq,Nat.reduceAdd,Nat.reduceLeDiff,Nat.reduceLT]
   refine⟨by omega,by omega,by omega,by rw[List.length_append,List.length_append,List.length_replicate];simp;omega,?_⟩
   refine fin_re [2,1] ?_ (by decide) ?_ ?_
   ·simp[reBs,reB,hp]
   ·simp[keeps,keep1]
   ·simp[reAs,reA,reC,hp]<;>omega
  ·simp only[e1,e2,e3,Nat.sub_zero,Nat.add_sub_cancel_left,CC.down,app1,wr1,Nat.reduceEqDiff,reduceCtorEq,Nat.reduceAdd,Nat.reduceLeDiff,Nat.reduceLT]
   refine⟨by omega,by omega,?_⟩
   refine callX_arr [1,0] (hov e' e 0 (i+1) 1 _ none _ [x] rows) rfl ?_ ?_ (by decide) ?_
   ·simp[A1.live,C.live,hp]
   ·simp[inA,hp,Blk.easy]
   simp only[tailWr,Blk.ren,rn,AV.ren,A1.ren,C.ren,e1,e2,e3,Nat.sub_zero,CC.down,app1,wr1,Nat.reduceEqDiff,reduceCtorEq,Nat.reduceAdd,Nat.reduceLeDiff,Nat.reduceLT]
   refine⟨by omega,by omega,by omega,by omega,by omega,by omega,?_,?_⟩
   ·simp;omega
   ·have m13:min (n+1-i) (n-i)=n-i:=by omega
    have m14:rows.drop (i+1+(n-i))=[]:=List.drop_of_length_le (by omega)
    have m17:(rows.take (i+1)).length=i+1:=by simp;omega
    have m15:(rows.take (i+1)++rows.drop i).take i=rows.take i:=by
     rw[List.take_append_of_le_length (by omega),List.take_take];congr 1;omega
    have m16:(rows.take (i+1)++rows.drop i).drop (i+1)=rows.drop i:=by
     rw[List.drop_append,m17,List.drop_of_length_le (by omega)];simp
    simp only[m2,m4,m13,m7,m6,m5,m14,m15,m16,List.append_nil,List.take_succ_cons,List.take_zero,List.length_cons,List.length_nil,Nat.zero_add]
    refine fin_re [0,1] ?_ (by decide) ?_ ?_
    ·simp[reBs,reB,hp]
    ·simp[keeps,keep1]
    ·simp[reAs,reA,reC,hp]<;>omega
end
def insI{α:Type}(xs:List α)(i:Int)(x:α):Option (List α):=if 0≤i∧i≤xs.length∧xs.length≤4294967289 then some (xs.take i.toNat++x::xs.drop i.toNat)else none
section
variable {P:Program} {f g rr:FuncId} {sz bt:Nat} {z:List D} {α:Type} {enc:α→List D}
theorem rowsSz(hs:∀y,(enc y).length=sz)(xs:List α):RowsSz (xs.map enc) sz:=fun r hr=>by
 obtain⟨y,_,rfl⟩:=List.mem_map.1 hr;exact hs y
theorem L_insert(hf:afn P f=some (insertA sz bt z g rr))(hov:∀(e0 e1 o0 o1 l0 l1:Nat) (c0 c1:Option Nat) (r0 r1:List (List D)),CallD P g [.c (.own 0 e0 o0 l0 c0),.c (.own 1 e1 o1 l1 c1)] [some (.arr e0 sz r0),some (.arr e1 sz r1)] (.one (aB false)) [some (.arr e0 sz r0),some (.arr e1 sz r1)])
 (hs:∀y,(enc y).length=sz) {xs r:List α} {i:Int} {x:α} {e0 e1:Nat} (h:insI xs i x=some r):
 CallD P f [.c (.own 0 e0 0 xs.length none),aI i,.c (.own 1 e1 0 [x].length none)] [some (.arr e0 sz (xs.map enc)),some (.arr e1 sz ([x].map enc))] (tupV [.c (.own 0 (e0+1) 0 r.length none)]) [some (.arr (e0+1) sz (r.map enc)),some (.arr e1 sz ([x].map enc))]:=by
 unfold insI at h
 split at h
 ·rename_i h0
  cases h
  obtain⟨n,rfl⟩:∃n:Nat,i=n:=⟨i.toNat,by omega⟩
  have:=insert_spec hf hov (xs.map enc) (enc x) n e0 e1 xs.length (by simp) (by omega) (by omega) (rowsSz hs xs) (hs x)
  have e:(xs.take n++x::xs.drop n).length=xs.length+1:=by simp;omega
  have e2:(xs.take n++x::xs.drop n).map enc=(xs.map enc).take n++enc x::(xs.map enc).drop n:=by simp
  rw[Int.toNat_natCast,e,e2]
  exact this
 ·cases h
end
end Go.Fw
namespace Go.Fw
theorem clrL_len{α:Type}{xs:List α}{off len:Nat}{z:α}(h:off+len≤xs.length):(clrL xs off len z).length=xs.length:=by
 simp only[clrL,List.length_append,List.length_take,List.length_replicate,List.length_drop];omega
end Go.Fw
namespace Go.Fw
open Go.Sort Go.Proofs Go.Shelf
theorem take_mapL{α β:Type}{f:α→β}{l:List α}:List.take l.length (List.map f l)=List.map f l:=by
 rw[←List.length_map f,List.take_length]
def lit{α:Type}(xs:List α):List α:=xs
def bl(b:ByteArray):List UInt8:=b.data.toList
def lb(l:List UInt8):ByteArray:=⟨l.toArray⟩
theorem lb_bl(b:ByteArray):lb (bl b)=b:=by cases b;simp[lb,bl]
theorem bl_lb(l:List UInt8):bl (lb l)=l:=by simp[lb,bl]
def insS(x:List UInt8):List (List UInt8)→List (List UInt8)
 |[]=>[x]
 |y::r=>if Op.bytesLess y x then y::insS x r else x::y::r
def insL:List (List UInt8)→List (List UInt8)
 |[]=>[]
 |x::r=>insS x (insL r)
def sortL(xs:List ByteArray):List ByteArray:=(insL (xs.map bl)).map lb
theorem bless_lt':∀x y:List UInt8,Op.bytesLess x y=decide (x<y)
 |[],[]=>by simp[Op.bytesLess]
 |[],b::y=>by simp[Op.bytesLess]
 |a::x,[]=>by simp[Op.bytesLess]
 |a::x,b::y=>by
  rw[Op.bytesLess,bless_lt' x y,Bool.eq_iff_iff]
  simp only[Bool.or_eq_true,decide_eq_true_eq,Bool.and_eq_true,beq_iff_eq,List.cons_lt_cons_iff]
theorem insS_perm(x:List UInt8):∀l,(insS x l).Perm (x::l)
 |[]=>List.Perm.refl _
 |y::r=>by
  unfold insS;split
  ·exact((insS_perm x r).cons y).trans (List.Perm.swap x y r)
  ·exact List.Perm.refl _
theorem insL_perm:∀l,(insL l).Perm l
 |[]=>List.Perm.refl _
 |x::r=>(insS_perm x _).trans ((insL_perm r).cons x)
theorem insS_pw(x:List UInt8):∀{l:List (List UInt8)},l.Pairwise (·≤·)→(insS x l).Pairwise (·≤·)
 |[],_=>by simp[insS]
 |y::r,h=>by
  have h2:=List.pairwise_cons.1 h
  unfold insS;split
  ·rename_i hl
   rw[bless_lt',decide_eq_true_eq]at hl
   refine List.pairwise_cons.2 ⟨fun z hz=>?_,insS_pw x h2.2⟩
   rcases List.mem_cons.1 ((insS_perm x r).mem_iff.1 hz)with e|hz
   ·subst e;exact List.le_of_lt hl
   ·exact h2.1 z hz
  ·rename_i hl
   rw[bless_lt',decide_eq_true_eq]at hl
   refine List.pairwise_cons.2 ⟨fun z hz=>?_,h⟩
   rcases List.mem_cons.1 hz with e|hz
   ·subst e;exact List.not_lt.1 hl
   ·exact List.le_trans (List.not_lt.1 hl) (h2.1 z hz)
theorem insL_pw:∀l,(insL l).Pairwise (·≤·)
 |[]=>List.Pairwise.nil
 |x::r=>insS_pw x (insL_pw r)
theorem insL_eq(l:List (List UInt8)):insL l=l.mergeSort fun x y=>decide (x≤y):=by
 refine List.Perm.eq_of_pairwise (le:=(·≤·)) (fun a b _ _ h1 h2=>List.le_antisymm h1 h2) (insL_pw l) ?_ ((insL_perm l).trans (List.mergeSort_perm l _).symm)
 refine(List.pairwise_mergeSort (le:=fun x y:List UInt8=>decide (x≤y)) (fun a b c h1 h2=>by simp only[decide_eq_true_eq]at*;exact List.le_trans h1 h2) (fun a b=>by simp only[Bool.or_eq_true,decide_eq_true_eq];exact List.le_total a b) l).imp fun{a b} h=>by simpa using h
theorem sortL_eq(xs:List ByteArray):sortL xs=((xs.map bl).mergeSort fun x y=>decide (x≤y)).map lb:=by rw[sortL,insL_eq]
def compL(xs:List ByteArray):List ByteArray:=(Lib.compact (xs.map bl)).map lb
def sortI(xs:List ByteArray):Option (List ByteArray):=if xs.length≤4294967290 then some (sortL xs)else none
def compI(xs:List ByteArray):Option (List ByteArray):=if xs.length≤4294967290 then some (compL xs)else none
theorem sortL_len(xs:List ByteArray):(sortL xs).length=xs.length:=by simp[sortL_eq]
theorem compL_len(xs:List ByteArray):(compL xs).length≤xs.length:=by
 have:=Lib.compact_length_le (xs.map bl)
 simpa[compL]using this
theorem sortI_len{xs r:List ByteArray}(h:sortI xs=some r):r.length=xs.length:=by
 unfold sortI at h
 split at h
 ·cases h;exact sortL_len xs
 ·cases h
theorem put_rel{φ:Phi}{F:Nat→Prop}{w:World}{e e':Nat}{xs ys:List ByteArray}{b o:Nat}{ds:List (List UInt8)}{n:Nat}{os:Array Obj}
 (hr:Rel φ F (hp [some (.arr e 1 (xs.map eS))]) w) (hφ:φ 0=some (b,o)) (hd:ds.length=xs.length) (hy:ds.map lb=ys∨∃zs,ds.map lb=ys++zs)
 (he:e<e'∨e=e'∧ys.length=xs.length):
 ∃w',w'=grow (putRow encStr (Sort.ahead w n) b o ds.toArray) os∧Rel φ F (hp [some (.arr e' 1 (ys.map eS))]) w'∧Stp φ F (hp [some (.arr e 1 (xs.map eS))]) w φ F (hp [some (.arr e' 1 (ys.map eS))]) w'∧Fr φ F w φ F w'∧bsize w' b=bsize w b:=by
 refine⟨_,rfl,?_⟩
 generalize hw':grow (putRow encStr (Sort.ahead w n) b o ds.toArray) os=w'
 have hB:=hr.blk 0 _ rfl
 rcases hB with⟨h1,_⟩|⟨b0,o0,cs,T,h1,h2,h3,h4,h5⟩
 ·rw[hφ]at h1;cases h1
 rw[hφ]at h1
 simp only[Option.some.injEq,Prod.mk.injEq]at h1
 obtain⟨rfl,rfl⟩:=h1
 have hblt:b<w.heap.size:=hr.lt hφ
 have hrest:∀c,c<w.heap.size→c≠b→w'.heap[c]? =w.heap[c]? :=by
  intro c hc hcb
  rw[←hw']
  simp only[grow,putRow,mapBlock,Sort.ahead]
  rw[Array.getElem?_append_left (by simpa using hc),Array.getElem?_modify,if_neg (Ne.symm hcb)]
 have hsize:w.heap.size≤w'.heap.size:=by rw[←hw'];simp[grow,putRow,mapBlock,Sort.ahead]
 have hblk:w'.heap[b]? =some (.cells (putCells encStr o ds.toArray cs) T (0,0)):=by
  rw[←hw']
  simp only[grow,putRow,mapBlock,Sort.ahead]
  rw[Array.getElem?_append_left (by simpa using hblt),Array.getElem?_modify,if_pos rfl,h2]
  rfl
 have hsz:(putCells encStr o ds.toArray cs).size=cs.size:=by simp[putCells]
 have hlen:ys.length≤xs.length:=by
  rcases hy with hy|⟨zs,hy⟩
  ·have:=congrArg List.length hy;simp at this;omega
  ·have:=congrArg List.length hy;simp at this;omega
 have hget:∀i y,ys[i]? =some y→(putCells encStr o ds.toArray cs)[o+i]? =some (.string y):=by
  intro i y hi
  have hil:=(List.getElem?_eq_some_iff.1 hi).1
  simp only[List.length_map]at h3
  have hdi:(ds.map lb)[i]? =some y:=by
   rcases hy with hy|⟨zs,hy⟩
   ·rw[hy];exact hi
   ·rw[hy,List.getElem?_append_left hil];exact hi
  rw[List.getElem?_map,Option.map_eq_some_iff]at hdi
  obtain⟨l,hl,rfl⟩:=hdi
  have hcs:cs[o+i]? =some cs[o+i]:=Array.getElem?_eq_getElem (by omega)
  simp only[putCells,Array.getElem?_mapIdx,hcs,Option.map_some]
  rw[if_pos (by simp only[List.size_toArray];omega)]
  have e:o+i-o=i:=by omega
  rw[e]
  have:ds.toArray[i]! =l:=by
   rw[getElem!_pos _ i (by simp only[List.size_toArray];omega)]
   have:=(List.getElem?_eq_some_iff.1 hl)
   simpa using this.2
  rw[this];rfl
 have hbs:bsize w' b=bsize w b:=by simp only[bsize,hblk,h2,hsz]
 have upd0:upd φ 0 (φ 0)=φ:=by funext j;by_cases hj:j=0
                               ·subst hj;simp
                               ·rw[upd_ne _ _ hj]
 have updG:upd (hp [some (.arr e 1 (xs.map eS))]) 0 (some (.arr e' 1 (ys.map eS)))=hp [some (.arr e' 1 (ys.map eS))]:=by
  funext j
  cases j with
  |zero=>simp[upd,hp]
  |succ j=>simp[upd,hp]
 have:=hr.update 0 (φ 0) (.arr e' 1 (ys.map eS)) w' hsize (by rw[←hw'];exact⟨rfl,rfl⟩)
  (fun c hc hn=>hrest c hc fun e=>hn o (by rw[hφ,e])) (fun c oc hc=> .inl ⟨oc,hc⟩)
  (by
    rw[upd0]
    refine⟨by omega,fun hee=>⟨rfl,?_,rfl,fun c oc hc=>?_⟩⟩
    ·simp only[List.length_map];omega
    ·rw[hφ]at hc;cases hc;exact hbs)
  (fun stp=>by
    refine .inr ⟨b,o,_,T,by rw[upd0];exact hφ,hblk,?_,?_,?_⟩
    ·rw[hsz];simp only[List.length_map]at h3⊢;omega
    ·intro row hrow
     obtain⟨y,_,rfl⟩:=List.mem_map.1 hrow;rfl
    ·intro i row hi j d hj
     rw[List.getElem?_map,Option.map_eq_some_iff]at hi
     obtain⟨y,hy',rfl⟩:=hi
     cases j with
     |succ j=>simp[eS]at hj
     |zero=>
      simp only[eS,List.getElem?_cons_zero,Option.some.injEq]at hj
      subst hj
      exact⟨.string y,by rw[Nat.mul_one,Nat.add_zero];exact hget i y hy',.v _ rfl⟩)
 rw[upd0,updG]at this
 exact⟨this.1,this.2.1,this.2.2,hbs⟩
theorem holds_row{φ:Phi}{F:Nat→Prop}{w:World}{e:Nat}{xs:List ByteArray}{b o:Nat}(hr:Rel φ F (hp [some (.arr e 1 (xs.map eS))]) w)(hφ:φ 0=some (b,o)):Holds encStr w b o (xs.map bl).toArray:=by
 intro j hj
 simp only[List.size_toArray,List.length_map]at hj
 have hB:=hr.blk 0 _ rfl
 rcases hB with⟨h1,_⟩|⟨b0,o0,cs,T,h1,h2,h3,h4,h5⟩
 ·rw[hφ]at h1;cases h1
 rw[hφ]at h1
 simp only[Option.some.injEq,Prod.mk.injEq]at h1
 obtain⟨rfl,rfl⟩:=h1
 obtain⟨u,hu,hd⟩:=h5 j (eS xs[j]) (by rw[List.getElem?_map,List.getElem?_eq_getElem hj];rfl) 0 _ rfl
 rw[Nat.mul_one,Nat.add_zero]at hu
 have hv:u= .string xs[j]:=by cases hd;rfl
 subst hv
 refine⟨?_,by simp[World.frozen?,h2]⟩
 rw[cell?_of_heap h2,hu]
 have:(xs.map bl).toArray[j]! =bl xs[j]:=by
  rw[getElem!_pos _ j (by simpa using hj)];simp
 rw[this]
 show some (Value.string xs[j])=some (Value.string (lb (bl xs[j])))
 rw[lb_bl]
theorem L_sort{P:Program}{f:FuncId}{ρ:Ren}(L:Lays.n190 P ρ)(hf:ρ.f 190=f)(hok:okFn P f=true){xs r:List ByteArray}{e0:Nat}(h:sortI xs=some r):
 CallD P f [.c (.own 0 e0 0 xs.length none)] [some (.arr e0 1 (xs.map eS))] (tupV []) [some (.arr e0 1 (r.map eS))]:=by
 unfold sortI at h
 split at h
 ·rename_i hl
  cases h
  intro φ F w vs hr hA
  cases hA with
  |cons hv hA=>
   cases hA
   obtain⟨e,sz,rows,hG,_,A,l,k,rfl,hk⟩:=hv
   cases hG
   obtain⟨rfl,hlk,_,_,hor⟩:=hk rfl
   refine .inl ⟨hok,?_⟩
   cases xs with
   |nil=>
    have:=Any.slices_Sort_string_none L A k w
    rw[hf]at this
    refine this.mono ?_
    rintro e' w' ⟨rfl,rfl⟩
    have e0':sortL []=[]:=rfl
    rw[e0']
    exact⟨_,rfl,φ,F,⟨[],rfl,.nil⟩,hr,Stp.refl _ _ _ _,Fr.refl _ _ _⟩
   |cons x xs=>
    rcases hor with h0|⟨b,o,n,hφ,rfl,hn,hle⟩
    ·simp only[List.length_cons]at hlk;omega
    simp only[Nat.zero_mul,Nat.add_zero]
    have:=Any.slices_Sort_string L b o k (((x::xs).map bl)) w (holds_row hr hφ) (hr.lt hφ) (by simp only[List.length_map];omega)
    rw[hf,List.length_map]at this
    refine this.mono ?_
    rintro e' w' ⟨rfl,n,os,hw⟩
    obtain⟨w2,q1,q2,q3,q4,_⟩:=put_rel (n:=n) (os:=os) (e':=e0) (ys:=sortL (x::xs)) hr hφ (ds:=((x::xs).map bl).mergeSort fun x y=>decide (x≤y)) (by simp) (.inl (sortL_eq _).symm) (.inr ⟨rfl,sortL_len _⟩)
    rw[←q1]at hw
    subst hw
    exact⟨_,rfl,φ,F,⟨[],rfl,.nil⟩,q2,q3,q4⟩
 ·cases h
theorem L_comp{P:Program}{f:FuncId}{ρ:Ren}(L:Lays.n194 P ρ)(hf:ρ.f 194=f)(hok:okFn P f=true){xs r:List ByteArray}{e0:Nat}(h:compI xs=some r):
 CallD P f [.c (.own 0 e0 0 xs.length none)] [some (.arr e0 1 (xs.map eS))] (tupV [.c (.own 0 (e0+1) 0 r.length none)]) [some (.arr (e0+1) 1 (r.map eS))]:=by
 unfold compI at h
 split at h
 ·rename_i hl
  cases h
  intro φ F w vs hr hA
  cases hA with
  |cons hv hA=>
   cases hA
   obtain⟨e,sz,rows,hG,_,A,l,k,rfl,hk⟩:=hv
   cases hG
   obtain⟨rfl,hlk,_,_,hor⟩:=hk rfl
   refine .inl ⟨hok,?_⟩
   cases xs with
   |nil=>
    have:=Any.slices_Compact_string_empty L A k w
    rw[hf]at this
    refine this.mono ?_
    rintro e' w' ⟨rfl,rfl⟩
    have hB:=hr.blk 0 _ rfl
    have upd0:upd φ 0 (φ 0)=φ:=by funext j;by_cases hj:j=0
                                  ·subst hj;simp
                                  ·rw[upd_ne _ _ hj]
    have updG:upd (hp [some (.arr e0 1 (([]:List ByteArray).map eS))]) 0 (some (.arr (e0+1) 1 []))=hp [some (.arr (e0+1) 1 [])]:=by
     funext j
     cases j with
     |zero=>simp[upd,hp]
     |succ j=>simp[upd,hp]
    have:=hr.update 0 (φ 0) (.arr (e0+1) 1 []) w' (Nat.le_refl _) (Io.refl _) (fun _ _ _=>rfl) (fun c oc hc=> .inl ⟨oc,hc⟩)
     (by rw[upd0];exact⟨by omega,fun hee=>by omega⟩)
     (fun stp=>by
       rcases hB with⟨h1,_⟩|⟨b,o,cs,T,h1,h2,h3,_,_⟩
       ·exact .inl ⟨by rw[upd0];exact h1,rfl⟩
       ·exact .inr ⟨b,o,cs,T,by rw[upd0];exact h1,h2,by simpa using h3,(fun row hrow=>by cases hrow),fun i row hi=>by simp at hi⟩)
    rw[upd0,updG]at this
    refine⟨_,rfl,φ,F,?_,this.1,this.2.1,this.2.2⟩
    exact⟨e0+1,1,[],rfl,Nat.le_refl _,A,0,k,rfl,fun _=>⟨rfl,Nat.zero_le _,(fun c hc=>by cases hc),fun _=>Nat.le_refl _,hor⟩⟩
   |cons x xs=>
    rcases hor with h0|⟨b,o,n,hφ,rfl,hn,hle⟩
    ·simp only[List.length_cons]at hlk;omega
    simp only[Nat.zero_mul,Nat.add_zero]at hle⊢
    have:=Any.slices_Compact_string L b o k ((x::xs).map bl) w (holds_row hr hφ) (by simp only[List.length_map];omega) (by simpa using hlk)
    rw[hf,List.length_map]at this
    refine this.mono ?_
    rintro e' w' ⟨rfl,q,hw⟩
    have hcl:=Lib.compact_length_le ((x::xs).map bl)
    rw[List.length_map]at hcl
    obtain⟨w2,q1,q2,q3,q4,q5⟩:=put_rel (n:=q) (os:= #[]) (e':=e0+1) (ys:=compL (x::xs)) hr hφ
     (ds:=Lib.compact ((x::xs).map bl)++List.replicate ((x::xs).length-(Lib.compact ((x::xs).map bl)).length) []) (by simp only[List.length_append,List.length_replicate];omega)
     (.inr ⟨_,by rw[List.map_append];rfl⟩) (.inl (by omega))
    rw[grow_empty]at q1
    rw[←q1]at hw
    subst hw
    have hcl2:(compL (x::xs)).length=(Lib.compact ((x::xs).map bl)).length:=by simp[compL]
    refine⟨_,rfl,φ,F,?_,q2,q3,q4⟩
    refine⟨e0+1,1,_,rfl,Nat.le_refl _,_,_,k,rfl,fun _=>⟨hcl2.symm,by omega,(fun c hc=>by cases hc),fun _=>by simp,.inr ⟨b,o,n,hφ,by simp,by rw[q5];exact hn,by omega⟩⟩⟩
 ·cases h
end Go.Fw
namespace Go.Fw
open Go.Proofs Go.Shelf Go.RowKit
def contI(s t:ByteArray):Option Bool:=
 if s.size<4294967281 then some (Lib.contains (bl s) (bl t))else none
theorem L_contains{P:Program}{f:FuncId}{ρ:Ren}(L:Lays.n144 P ρ)(hf:ρ.f 144=f)(hok:okFn P f=true)(hg:ρ.g 1∈gBlocks){s t:ByteArray}{r:Bool}(h:contI s t=some r):
 CallD P f [.c (.d (.v (.string s))),.c (.d (.v (.string t)))] [] (tupV [.c (.d (.v (.bool r)))]) []:=by
 unfold contI at h
 split at h
 ·rename_i hs
  cases h
  intro φ F w vs hr hA
  cases hA with
  |cons h1 hA=>
   cases hA with
   |cons h2 hA=>
    cases hA
    cases h1
    cases h2
    obtain⟨_,m,hm⟩:=hr.glb _ hg
    refine .inl ⟨hok,?_⟩
    have:=Any.strings_Contains L s t m w hs hm
    rw[hf]at this
    refine this.mono ?_
    rintro e' w' ⟨rfl,rfl⟩
    exact⟨_,rfl,φ,F,DRep.v _ rfl,hr,Stp.refl _ _ _ _,Fr.refl _ _ _⟩
 ·cases h
def joinL(xs:List ByteArray)(sep:ByteArray):ByteArray:=lb (Lib.join (xs.map bl) (bl sep))
def joinI(xs:List ByteArray)(sep:ByteArray):Option ByteArray:=
 if xs.length≤4294967290∧(joinL xs sep).size≤4294967290 then some (joinL xs sep)else none
theorem below_rel{φ:Phi}{F:Nat→Prop}{G:Heap}{w w':World}(hr:Rel φ F G w)(h:Below w.heap.size w w'):
 Rel φ F G w'∧Stp φ F G w φ F G w'∧Fr φ F w φ F w':=by
 have hb:∀b o i,φ i=some (b,o)→w'.heap[b]? =w.heap[b]? :=fun b o i hi=>h.block b (hr.lt hi)
 have stp:Stp φ F G w φ F G w':=⟨fun b hF=>⟨hF,h.block b (hr.frz b hF).1⟩,fun id=>BStp.same rfl fun b o hφ=>bsize_congr (hb b o id hφ)⟩
 exact⟨⟨fun id blk hG=>BRep.mono stp rfl (fun b o hφ=>hb b o id hφ) (hr.blk id blk hG),hr.dom,hr.inj,fun b hF=>⟨Nat.lt_of_lt_of_le (hr.frz b hF).1 h.size,(hr.frz b hF).2⟩,glb_keep stp.frz hr.glb⟩,
  stp,⟨h.size,fun b hb' _=>h.block b hb',fun id b o hi=> .inl ⟨id,o,hi⟩,fun b hF=> .inl hF,⟨h.os,h.output⟩⟩⟩
theorem joinL_eq(xs:List ByteArray)(sep:ByteArray):joinL xs sep=⟨(Lib.join (xs.map (·.data.toList)) sep.data.toList).toArray⟩:=rfl
theorem join_at{P:Program}{f:FuncId}{ρ:Ren}(L:Lays.n156 P ρ)(X:Builder.Extra P ρ)(hf:ρ.f 156=f)(hok:okFn P f=true){xs:List ByteArray}{sep r:ByteArray}(h:joinI xs sep=some r)
 {φ:Phi} {F:Nat→Prop} {G:Heap} {w:World} (hr:Rel φ F G w) (A:Option Addr) (k:Nat) (hk:xs.length≤k)
 (hA:xs=[]∨∃b o,A=some ⟨b,o,none⟩∧b<w.heap.size∧∀(j:Nat) x,xs[j]? =some x→w.cell? ⟨b,o+j,none⟩=some (.string x)):
 Ent P f #[.slice A xs.length k,.string sep] w fun v w'=>v= .string r∧∃φ' F',Rel φ' F' G w'∧Stp φ F G w φ' F' G w'∧Fr φ F w φ' F' w':=by
 unfold joinI at h
 split at h
 ·rename_i hl
  cases h
  refine .inl ⟨hok,?_⟩
  rcases hA with rfl|⟨b,o,rfl,hb,hc⟩
  ·have:=Any.strings_Join_none L X A k sep w
   rw[hf]at this
   refine this.mono ?_
   rintro e' w' ⟨rfl,rfl⟩
   exact⟨_,rfl,rfl,φ,F,hr,Stp.refl _ _ _ _,Fr.refl _ _ _⟩
  ·have hlen:(Lib.join (xs.map (·.data.toList)) sep.data.toList).length≤140737488355328:=by
    have:=hl.2
    rw[joinL_eq]at this
    simp only[ByteArray.size,List.size_toArray]at this
    omega
   have:=Any.strings_Join L X b o k xs sep w hc hb (by omega) hk hlen
   rw[hf]at this
   refine this.mono ?_
   rintro e' w' ⟨rfl,hw⟩
   have:=below_rel hr hw
   exact⟨_,rfl,rfl,φ,F,this.1,this.2.1,this.2.2⟩
 ·cases h
theorem drep_strs{w:World}{F:Nat→Prop}{xs:List ByteArray}{v:Value}(hF:∀b,F b→b<w.heap.size)(h:DRep w F (.sl (xs.map eS)) v):
 ∃A k,v= .slice A xs.length k∧xs.length≤k∧(xs=[]∨∃b o,A=some ⟨b,o,none⟩∧b<w.heap.size∧∀(j:Nat) x,xs[j]? =some x→w.cell? ⟨b,o+j,none⟩=some (.string x)):=by
 generalize hrows:D.sl (xs.map eS)=d at h
 cases h with
 |v x hx=>cases hrows
 |nil A cap=>
  simp only[D.sl.injEq,List.map_eq_nil_iff]at hrows
  subst hrows
  exact⟨A,cap,rfl,by simp,.inl rfl⟩
 |sl rows b o sz cap u hb hc hs hcell hd=>
  simp only[D.sl.injEq]at hrows
  subst hrows
  refine⟨some ⟨b,o,none⟩,cap,by rw[List.length_map],by simpa using hc,.inr ⟨b,o,rfl,hF b hb,fun j x hj=>?_⟩⟩
  have hi:(xs.map eS)[j]? =some (eS x):=by rw[List.getElem?_map,hj];rfl
  have h1:sz=1:=(hs (eS x) (List.mem_of_getElem? hi)).symm
  have c0:=hcell j (eS x) hi 0 (.v (.string x)) rfl
  have d0:=hd j (eS x) hi 0 (.v (.string x)) rfl
  rw[h1,Nat.mul_one,Nat.add_zero]at c0
  rw[c0]
  generalize u j 0=y at d0
  cases d0;rfl
theorem L_joinD{P:Program}{f:FuncId}{ρ:Ren}(L:Lays.n156 P ρ)(X:Builder.Extra P ρ)(hf:ρ.f 156=f)(hok:okFn P f=true){xs:List ByteArray}{sep r:ByteArray}(h:joinI xs sep=some r):
 CallD P f [.c (.d (.sl (xs.map eS))),.c (.d (.v (.string sep)))] [] (tupV [.c (.d (.v (.string r)))]) []:=by
 intro φ F w vs hr hA
 cases hA with
 |cons h1 hA=>
  cases hA with
  |cons h2 hA=>
   cases hA
   cases h2
   obtain⟨A,k,rfl,hk,hc⟩:=drep_strs (fun b hb=>(hr.frz b hb).1) h1
   refine(join_at L X hf hok h hr A k hk hc).mono ?_
   rintro v w' ⟨rfl,φ',F',h1,h2,h3⟩
   exact⟨φ',F',DRep.v _ rfl,h1,h2,h3⟩
end Go.Fw
