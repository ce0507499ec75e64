/- Contracts of slices.Clone, slices.Insert, slices.Delete, and of the compare of strings. -/
import Derived.Test.YtdkmamiedcanfaaGreatFP
import Derived.Lib.Bytealg
import Derived.Laws.Externs
import Derived.Shelf.Sort.Plain
import Derived.Shelf.Slices.In.SortNone
import Derived.Shelf.Slices.CompactS
import Derived.Lib.RowBridge
import Derived.Shelf.SlIter.Collect
import Derived.Shelf.SlIter.Sorted
set_option linter.unusedVariables false
set_option linter.unusedSimpArgs false
set_option linter.unusedSectionVars false
namespace Go.Fw
set_option maxRecDepth 100000
set_option maxHeartbeats 4000000
def C0:=PLift.up (And.intro (And.intro (And.intro (And.intro @PH (And.intro @PY @KD)) (And.intro @Sl (And.intro @Pw @UT))) (And.intro (And.intro @MA (And.intro @MC @MB)) (And.intro @Jn (And.intro @Jo @Cz.eq_1)))) (And.intro (And.intro (And.intro @Ds.eq_1 (And.intro @Ds.eq_2 @St.ev.eq_1)) (And.intro @St.ev.eq_2 (And.intro @St.ev.eq_3 @St.evC.eq_1))) (And.intro (And.intro @St.evV.eq_1 (And.intro @lk.eq_1 @lk.eq_2)) (And.intro @wrs.eq_1 (And.intro @wrs.eq_2 @B8.eq_1)))))
def C1:=PLift.up (And.intro (And.intro (And.intro (And.intro @B8.eq_2 (And.intro @ret.eq_1 @BR.eq_1)) (And.intro @evL.eq_1 (And.intro @evL.eq_2 @Ov.eq_1))) (And.intro (And.intro @Ov.eq_2 (And.intro @Di.eq_1 @Di.eq_2)) (And.intro @Ox.eq_1 (And.intro @Ox.eq_2 @JH.eq_1)))) (And.intro (And.intro (And.intro @JH.eq_2 (And.intro @JH.eq_3 @Iy.eq_1)) (And.intro @Iy.eq_2 (And.intro @Fu.eq_1 @Fu.eq_2))) (And.intro (And.intro @Fu.eq_3 (And.intro @kSt.eq_1 @if_true.{1})) (And.intro @if_true.{0} (And.intro @if_false.{1} @if_false.{0})))))
def C2:=PLift.up (And.intro (And.intro (And.intro (And.intro @Cf.eq_1 (And.intro @Cf.eq_2 @Cf.eq_3)) (And.intro @Cf.eq_4 (And.intro @Cf.eq_5 @Cf.eq_6))) (And.intro (And.intro @Cf.eq_7 (And.intro @Cf.eq_8 @Cf.eq_9)) (And.intro @Cf.eq_10 (And.intro @Cf.eq_11 @Cf.eq_12)))) (And.intro (And.intro (And.intro @Cf.eq_13 (And.intro @Cf.eq_14 @Cf.eq_15)) (And.intro @Cf.eq_16 (And.intro @Cf.eq_18 @Cf.eq_19))) (And.intro (And.intro @Cf.eq_20 (And.intro @Cf.eq_21 @Cf.eq_22)) (And.intro @Cf.eq_23 (And.intro @Cf.eq_24 @true_and)))))
def C3:=PLift.up (And.intro (And.intro (And.intro (And.intro @and_true (And.intro @decide_eq_true_eq @decide_eq_false_iff_not)) (And.intro @List.length_map.{0,0} (And.intro @Int.toNat_natCast @ldC.eq_1))) (And.intro (And.intro @ldC.eq_2 (And.intro @ldC.eq_3 @List.map_cons.{0,0})) (And.intro @List.map_nil.{0,0} (And.intro @List.length_cons.{0} @List.length_nil.{0})))) (And.intro (And.intro (And.intro @List.take_succ_cons.{0} (And.intro @List.take_zero.{0} @A1.cells.eq_1)) (And.intro @A1.cells.eq_2 (And.intro @BV.eq_1 @BV.eq_2))) (And.intro (And.intro @BV.eq_3 (And.intro @BV.eq_4 @hp.eq_1)) (And.intro @A8.eq_1 (And.intro @List.getElem?_cons_zero.{0} @List.getElem?_cons_succ.{0})))))
def C4:=PLift.up (And.intro (And.intro (And.intro (And.intro @Option.join_some.{0} (And.intro @List.drop_succ_cons.{0} @List.drop_zero.{0})) (And.intro @Nat.zero_add (And.intro @List.nil_append.{0} @List.cons_append.{0}))) (And.intro (And.intro @List.append_nil.{0} (And.intro @List.drop_nil.{0} @Nat.le_refl)) (And.intro @Mr.eq_1 (And.intro @Em.eq_1 @Em.eq_2)))) (And.intro (And.intro (And.intro @FI.eq_1 (And.intro @FI.eq_2 @FI.eq_3)) (And.intro @W6 (And.intro @W7 @Sz))) (And.intro (And.intro @Xc (And.intro @VH @VG)) (And.intro @Ip.eq_1 (And.intro @Ip.eq_2 @Ip.eq_3)))))
def C5:=PLift.up (And.intro (And.intro (And.intro (And.intro @List.isEmpty_iff.{0} (And.intro @Vq @Vr)) (And.intro @P8 (And.intro @P7 @Uu))) (And.intro (And.intro WU.down (And.intro @NP RX.down)) (And.intro @QO (And.intro Uh.down @NM)))) (And.intro (And.intro (And.intro RU.down (And.intro @Ly OU.down)) (And.intro @Kc (And.intro S4.down @NR))) (And.intro (And.intro RZ.down (And.intro @Lu OQ.down)) (And.intro @Kb (And.intro MY.down @Lw)))))
def C6:=PLift.up (And.intro (And.intro (And.intro (And.intro OR.down (And.intro @H9 S3.down)) (And.intro @NO (And.intro Wi.down @Lv))) (And.intro (And.intro T7.down (And.intro @MZ S2.down)) (And.intro @Uv (And.intro WV.down @QR)))) (And.intro (And.intro (And.intro Xq.down (And.intro @Sa Wk.down)) (And.intro @R9 (And.intro Wj.down @O0))) (And.intro (And.intro Uf.down (And.intro @WZ Yc.down)) (And.intro @NU (And.intro R2.down @Lx)))))
def C7:=PLift.up (And.intro (And.intro (And.intro (And.intro OT.down (And.intro @QL Ud.down)) (And.intro @QK (And.intro Uc.down @NN))) (And.intro (And.intro RW.down (And.intro @QN Ug.down)) (And.intro @QP (And.intro Ui.down @OZ)))) (And.intro (And.intro (And.intro @QG (And.intro T8.down @QQ)) (And.intro Uj.down (And.intro @QH T9.down))) (And.intro (And.intro @QJ (And.intro Ub.down @QI)) (And.intro Ua.down (And.intro @NQ RY.down)))))
def C8:=PLift.up (And.intro (And.intro (And.intro (And.intro @Iq.eq_1 (And.intro @Iq.eq_2 @NT)) (And.intro R1.down (And.intro @NS R0.down))) (And.intro (And.intro @QM (And.intro Ue.down @OS)) (And.intro @Pe (And.intro @LQ @KP)))) (And.intro (And.intro (And.intro @KO (And.intro @Pg @Pk)) (And.intro @Ph (And.intro @Pj @Sj))) (And.intro (And.intro @Pd (And.intro @M6 @M5)) (And.intro @UG (And.intro @UJ @UH)))))
def C9:=PLift.up (And.intro (And.intro (And.intro (And.intro @UI (And.intro @Pl @Pm)) (And.intro @O8 (And.intro @Si @O9))) (And.intro (And.intro @Se (And.intro @M4 @Pa)) (And.intro @Sf (And.intro @Pb @Sg)))) (And.intro (And.intro (And.intro @Pc (And.intro @Q0 @Q1)) (And.intro @M7 (And.intro @M9 @M8))) (And.intro (And.intro @Is (And.intro @Iu @It)) (And.intro @Jk (And.intro @Jm @Jl)))))
def C10:=PLift.up (And.intro (And.intro (And.intro (And.intro @KQ @LR) (And.intro @UK @Sk)) (And.intro (And.intro @Pf @Bv.eq_1) (And.intro @Vz (And.intro @SG @SH)))) (And.intro (And.intro (And.intro @VA @VB) (And.intro @Xb (And.intro @VC @VD))) (And.intro (And.intro @TE @RF) (And.intro @Bool.and_true (And.intro @Bool.true_and @Bool.not_false)))))
def CC:=PLift.up (And.intro (And.intro (And.intro C0.down C1.down) (And.intro C2.down (And.intro C3.down C4.down))) (And.intro (And.intro C5.down (And.intro C6.down C7.down)) (And.intro C8.down (And.intro C9.down C10.down))))
def Eo(sz bt:Nat):AFn:=⟨8,[(.tmp 2)],
 (.seq (.reg [⟨(some 2),none,.mv kN,[],(.new [])⟩])
 (.seq (.seq (.reg [⟨(some 3),none,.mv (.t 0),[],(.new [])⟩,
   ⟨(some 4),none,.eqnil false (.t 3),[],(.lone [])⟩])
 (.cond (.t 4)
 (.seq (.reg [⟨(some 2),none,.mv kN,[],(.new [])⟩])
 .ret)
 .skip))
 (.seq (.reg [⟨(some 5),none,.bslice sz [],[],(.new [])⟩,
   ⟨(some 6),none,.mv (.t 0),[],(.new [])⟩,
   ⟨(some 7),none,.app sz bt (.t 5) (.t 6),[],(.new [])⟩,
   ⟨(some 2),none,.mv (.t 7),[],(.new [])⟩])
 .ret)))⟩
def Ih(sz bt:Nat)(z:List D)(g:FuncId)(rr:FuncId):AFn:=⟨95,[(.tmp 6)],
 (.seq (.reg [⟨(some 6),none,.mv kN,[],(.new [])⟩])
 (.seq (.reg [⟨(some 10),none,.mv (.t 0),[],(.new [])⟩,
   ⟨(some 11),none,.mv (.t 1),[],(.new [])⟩,
   ⟨(some 12),none,.slice sz (.t 10) (some (.t 11)) none none,[],(.new [])⟩])
 (.seq (.reg [⟨(some 13),none,.mv (.t 2),[],(.new [])⟩,
   ⟨(some 14),none,.len (.t 13),[],(.new [])⟩,
   ⟨(some 7),none,.mv (.t 14),[],(.new [])⟩])
 (.seq (.seq (.reg [⟨(some 15),none,.mv (.t 7),[],(.new [])⟩,
   ⟨(some 16),none,.bin .eql (.t 15) (kI 0),[],(.new [])⟩])
 (.cond (.t 16)
 (.seq (.reg [⟨(some 17),none,.mv (.t 0),[],(.new [])⟩,
   ⟨(some 6),none,.mv (.t 17),[],(.new [])⟩])
 .ret)
 .skip))
 (.seq (.reg [⟨(some 18),none,.mv (.t 0),[],(.new [])⟩,
   ⟨(some 19),none,.len (.t 18),[],(.new [])⟩,
   ⟨(some 8),none,.mv (.t 19),[],(.new [])⟩])
 (.seq (.seq (.reg [⟨(some 20),none,.mv (.t 1),[],(.new [])⟩,
   ⟨(some 21),none,.mv (.t 8),[],(.new [])⟩,
   ⟨(some 22),none,.bin .eql (.t 20) (.t 21),[],(.new [])⟩])
 (.cond (.t 22)
 (.seq (.reg [⟨(some 23),none,.mv (.t 0),[],(.new [])⟩,
   ⟨(some 24),none,.mv (.t 2),[],(.new [])⟩,
   ⟨(some 25),none,.app sz bt (.t 23) (.t 24),[],(.new [])⟩,
   ⟨(some 6),none,.mv (.t 25),[],(.new [])⟩])
 .ret)
 .skip))
 (.seq (.seq (.reg [⟨(some 26),none,.mv (.t 8),[],(.new [])⟩,
   ⟨(some 27),none,.mv (.t 7),[],(.new [])⟩,
   ⟨(some 28),none,.bin .add (.t 26) (.t 27),[],(.new [])⟩,
   ⟨(some 29),none,.mv (.t 0),[],(.new [])⟩,
   ⟨(some 30),none,.cap (.t 29),[],(.new [])⟩,
   ⟨(some 31),none,.bin .gtr (.t 28) (.t 30),[],(.new [])⟩])
 (.cond (.t 31)
 (.seq (.reg [⟨(some 32),none,.mv (.t 0),[],(.new [])⟩,
   ⟨(some 33),none,.mv (.t 1),[],(.new [])⟩,
   ⟨(some 34),none,.slice sz (.t 32) none (some (.t 33)) none,[],(.new [])⟩,
   ⟨(some 35),none,.mv (.t 8),[],(.new [])⟩,
   ⟨(some 36),none,.mv (.t 7),[],(.new [])⟩,
   ⟨(some 37),none,.bin .add (.t 35) (.t 36),[],(.new [])⟩,
   ⟨(some 38),none,.mv (.t 1),[],(.new [])⟩,
   ⟨(some 39),none,.bin .sub (.t 37) (.t 38),[],(.new [])⟩,
   ⟨(some 40),none,.appz sz bt z (.t 34) (.t 39),[],(.new [])⟩,
   ⟨(some 9),none,.mv (.t 40),[],(.new [])⟩])
 (.seq (.reg [⟨(some 41),none,.mv (.t 9),[],(.new [])⟩,
   ⟨(some 42),none,.mv (.t 1),[],(.new [])⟩,
   ⟨(some 43),none,.slice sz (.t 41) (some (.t 42)) none none,[],(.new [])⟩,
   ⟨(some 44),none,.mv (.t 2),[],(.new [])⟩,
   ⟨(some 45),none,.copy sz (.t 43) (.t 44),[],(.lone [41])⟩])
 (.seq (.regd [⟨(some 46),none,.mv (.t 9),[],(.new [])⟩,
   ⟨(some 47),none,.mv (.t 1),[],(.new [])⟩,
   ⟨(some 48),none,.mv (.t 7),[],(.new [])⟩,
   ⟨(some 49),none,.bin .add (.t 47) (.t 48),[1,2],(.new [])⟩,
   ⟨(some 50),none,.slice sz (.t 46) (some (.t 49)) none none,[0,1,2,3],(.new [])⟩,
   ⟨(some 51),none,.mv (.t 0),[],(.new [])⟩,
   ⟨(some 52),none,.mv (.t 1),[],(.new [])⟩,
   ⟨(some 53),none,.slice sz (.t 51) (some (.t 52)) none none,[5,6],(.new [])⟩,
   ⟨(some 54),none,.copy sz (.t 50) (.t 53),[0,1,2,3,4,5,6,7],(.lone [])⟩])
 (.seq (.reg [⟨(some 55),none,.mv (.t 9),[],(.new [])⟩,
   ⟨(some 6),none,.mv (.t 55),[],(.new [])⟩])
 .ret))))
 .skip))
 (.seq (.reg [⟨(some 56),none,.mv (.t 0),[],(.new [])⟩,
   ⟨(some 57),none,.mv (.t 8),[],(.new [])⟩,
   ⟨(some 58),none,.mv (.t 7),[],(.new [])⟩,
   ⟨(some 59),none,.bin .add (.t 57) (.t 58),[],(.new [])⟩,
   ⟨(some 60),none,.slice sz (.t 56) none (some (.t 59)) none,[],(.new [])⟩,
   ⟨(some 0),none,.mv (.t 60),[],(.new [])⟩])
 (.seq (.seq (.reg [⟨(some 61),none,.mv (.t 2),[],(.new [])⟩,
   ⟨(some 62),none,.mv (.t 0),[],(.new [])⟩,
   ⟨(some 63),none,.mv (.t 1),[],(.new [])⟩,
   ⟨(some 64),none,.mv (.t 7),[],(.new [])⟩,
   ⟨(some 65),none,.bin .add (.t 63) (.t 64),[],(.new [])⟩,
   ⟨(some 66),none,.slice sz (.t 62) (some (.t 65)) none none,[],(.new [])⟩,
   ⟨(some 67),none,.call g [(.t 61),(.t 66)],[],(.new [])⟩,
   ⟨(some 68),none,.not (.t 67),[],(.new [])⟩])
 (.cond (.t 68)
 (.seq (.regd [⟨(some 69),none,.mv (.t 0),[],(.new [])⟩,
   ⟨(some 70),none,.mv (.t 1),[],(.new [])⟩,
   ⟨(some 71),none,.mv (.t 7),[],(.new [])⟩,
   ⟨(some 72),none,.bin .add (.t 70) (.t 71),[1,2],(.new [])⟩,
   ⟨(some 73),none,.slice sz (.t 69) (some (.t 72)) none none,[0,1,2,3],(.new [])⟩,
   ⟨(some 74),none,.mv (.t 0),[],(.new [])⟩,
   ⟨(some 75),none,.mv (.t 1),[],(.new [])⟩,
   ⟨(some 76),none,.slice sz (.t 74) (some (.t 75)) none none,[5,6],(.new [])⟩,
   ⟨(some 77),none,.copy sz (.t 73) (.t 76),[0,1,2,3,4,5,6,7],(.lone [])⟩])
 (.seq (.reg [⟨(some 78),none,.mv (.t 0),[],(.new [])⟩,
   ⟨(some 79),none,.mv (.t 1),[],(.new [])⟩,
   ⟨(some 80),none,.slice sz (.t 78) (some (.t 79)) none none,[],(.new [])⟩,
   ⟨(some 81),none,.mv (.t 2),[],(.new [])⟩,
   ⟨(some 82),none,.copy sz (.t 80) (.t 81),[],(.lone [78])⟩])
 (.seq (.reg [⟨(some 83),none,.mv (.t 0),[],(.new [])⟩,
   ⟨(some 6),none,.mv (.t 83),[],(.new [])⟩])
 .ret)))
 .skip))
 (.seq (.reg [⟨(some 84),none,.mv (.t 0),[],(.new [])⟩,
   ⟨(some 85),none,.mv (.t 8),[],(.new [])⟩,
   ⟨(some 86),none,.slice sz (.t 84) (some (.t 85)) none none,[],(.new [])⟩,
   ⟨(some 87),none,.mv (.t 2),[],(.new [])⟩,
   ⟨(some 88),none,.copy sz (.t 86) (.t 87),[],(.lone [84])⟩])
 (.seq (.reg [⟨(some 89),none,.mv (.t 0),[],(.new [])⟩,
   ⟨(some 90),none,.mv (.t 1),[],(.new [])⟩,
   ⟨(some 91),none,.slice sz (.t 89) (some (.t 90)) none none,[],(.new [])⟩,
   ⟨(some 92),none,.mv (.t 7),[],(.new [])⟩,
   ⟨(some 93),none,.call rr [(.t 91),(.t 92)],[],(.lone [89])⟩])
 (.seq (.reg [⟨(some 94),none,.mv (.t 0),[],(.new [])⟩,
   ⟨(some 6),none,.mv (.t 94),[],(.new [])⟩])
 .ret))))))))))))⟩
def Im(sz bt:Nat)(z:List D):AFn:=⟨33,[(.tmp 6)],
 (.seq (.reg [⟨(some 6),none,.mv kN,[],(.new [])⟩])
 (.seq (.reg [⟨(some 8),none,.mv (.t 0),[],(.new [])⟩,
   ⟨(some 9),none,.mv (.t 1),[],(.new [])⟩,
   ⟨(some 10),none,.mv (.t 2),[],(.new [])⟩,
   ⟨(some 11),none,.mv (.t 0),[],(.new [])⟩,
   ⟨(some 12),none,.len (.t 11),[],(.new [])⟩,
   ⟨(some 13),none,.slice sz (.t 8) (some (.t 9)) (some (.t 10)) (some (.t 12)),[],(.lone [11])⟩])
 (.seq (.seq (.reg [⟨(some 14),none,.mv (.t 1),[],(.new [])⟩,
   ⟨(some 15),none,.mv (.t 2),[],(.new [])⟩,
   ⟨(some 16),none,.bin .eql (.t 14) (.t 15),[],(.new [])⟩])
 (.cond (.t 16)
 (.seq (.reg [⟨(some 17),none,.mv (.t 0),[],(.new [])⟩,
   ⟨(some 6),none,.mv (.t 17),[],(.new [])⟩])
 .ret)
 .skip))
 (.seq (.reg [⟨(some 18),none,.mv (.t 0),[],(.new [])⟩,
   ⟨(some 19),none,.len (.t 18),[],(.new [])⟩,
   ⟨(some 7),none,.mv (.t 19),[],(.new [])⟩])
 (.seq (.regd [⟨(some 20),none,.mv (.t 0),[],(.new [])⟩,
   ⟨(some 21),none,.mv (.t 1),[],(.new [])⟩,
   ⟨(some 22),none,.slice sz (.t 20) none (some (.t 21)) none,[0,1],(.new [])⟩,
   ⟨(some 23),none,.mv (.t 0),[],(.new [])⟩,
   ⟨(some 24),none,.mv (.t 2),[],(.new [])⟩,
   ⟨(some 25),none,.slice sz (.t 23) (some (.t 24)) none none,[3,4],(.new [])⟩,
   ⟨(some 26),none,.app sz bt (.t 22) (.t 25),[0,1,2,3,4,5],(.lone [])⟩,
   ⟨(some 0),none,.mv (.t 26),[0,1,2,3,4,5,6],(.new [])⟩])
 (.seq (.reg [⟨(some 27),none,.mv (.t 0),[],(.new [])⟩,
   ⟨(some 28),none,.mv (.t 0),[],(.new [])⟩,
   ⟨(some 29),none,.len (.t 28),[],(.new [])⟩,
   ⟨(some 30),none,.mv (.t 7),[],(.new [])⟩,
   ⟨(some 31),none,.slice sz (.t 27) (some (.t 29)) (some (.t 30)) none,[],(.new [])⟩,
   ⟨none,none,.clear sz z (.t 31),[],(.lone [28,27])⟩])
 (.seq (.reg [⟨(some 32),none,.mv (.t 0),[],(.new [])⟩,
   ⟨(some 6),none,.mv (.t 32),[],(.new [])⟩])
 .ret)))))))⟩
theorem w1{n:Nat}(h:n≤4294967290):IntKind.i64.wrap ((n:Int)+1)=((n+1:Nat):Int):=AW (by omega)
theorem w2{n i:Nat}(h:n≤4294967290)(hi:i≤n):IntKind.i64.wrap (((n+1:Nat):Int)-i)=((n+1-i:Nat):Int):=by
 rw[Du (by omega) (by omega)];omega
section
variable {P:Program} {f g rr:FuncId} {sz bt:Nat} {z:List D}
theorem Rv(hf:afn P f=some (Eo sz bt))(rows:List (List D))(hl:rows.length≤4294967296)(hs:IZ rows sz):An P f [aL rows] [] (.one (.c (.own 0 1 0 rows.length none))) [some (.arr 1 sz rows)]:=by
 refine SB (A:=Eo sz bt) (res:=[.c (.own 0 1 0 rows.length none)]) hf (by simp[Eo]) ?_
 simp only[Eo,CC.down,Fo,wr1,Nat.reduceEqDiff,reduceCtorEq,Nat.reduceAdd,Nat.reduceLeDiff,Nat.reduceLT]
 exact⟨fun h=>by subst h;exact WI 1 sz,hs,hl,XN⟩
theorem PB(hf:afn P f=some (Ih sz bt z g rr))(hov:∀(e0 e1 o0 o1 l0 l1:Nat) (c0 c1:Option Nat) (r0 r1:List (List D)),An P g [.c (.own 0 e0 o0 l0 c0),.c (.own 1 e1 o1 l1 c1)] [some (.arr e0 sz r0),some (.arr e1 sz r1)] (.one (aB false)) [some (.arr e0 sz r0),some (.arr e1 sz r1)])(rows:List (List D))(x:List D)(i e e' n:Nat)(hn:rows.length=n)(hi:i≤n)(hl:n≤4294967290)(hs:IZ rows sz)(hx:x.length=sz):
 An P f [.c (.own 0 e 0 n none),aI i,.c (.own 1 e' 0 1 none)] [some (.arr e sz rows),some (.arr e' sz [x])] (.one (.c (.own 0 (e+1) 0 (n+1) none))) [some (.arr (e+1) sz (rows.take i++x::rows.drop i)),some (.arr e' sz [x])]:=by
 refine An.cap fun c hc=>?_
 refine SB (A:=Ih sz bt z g rr) (res:=[.c (.own 0 (e+1) 0 (n+1) none)]) hf (by simp[Ih]) ?_
 have e1:=w1 hl
 have e2:=w2 hl hi
 have e3:=w1 (n:=i) (by omega)
 simp only[Ih,CC.down,Fo,wr1,Nat.reduceEqDiff,reduceCtorEq,Nat.reduceAdd,Nat.reduceLeDiff,Nat.reduceLT]
 refine⟨by omega,Yp (by omega) ?_⟩
 simp only[CC.down,Fo,wr1,Nat.reduceEqDiff,reduceCtorEq,Nat.reduceAdd,Nat.reduceLeDiff,Nat.reduceLT]
 refine Bg (fun hin=>?_) (fun hin=>?_)
 ·have hin':i=n:=by omega
  subst hin'
  simp only[CC.down,Fo,wr1,Nat.reduceEqDiff,reduceCtorEq,Nat.reduceAdd,Nat.reduceLeDiff,Nat.reduceLT]
  refine⟨by omega,?_⟩
  by_cases hcc:i+1≤c
  ·refine .inl ⟨by simpa using hcc,?_⟩
   simp only[CC.down,Fo,wr1,Nat.reduceEqDiff,reduceCtorEq,Nat.reduceAdd,Nat.reduceLeDiff,Nat.reduceLT]
   refine Kv [0,1] ?_ (by decide) ?_ ?_
   ·simp[Ji,reB,hp,hn]
   ·simp[keeps,Hr]
   ·simp[NZ,reA,reC,hp]<;>omega
  ·refine .inr ⟨by simp<;>omega,by simp<;>omega,?_⟩
   simp only[CC.down,Fo,wr1,Nat.reduceEqDiff,reduceCtorEq,Nat.reduceAdd,Nat.reduceLeDiff,Nat.reduceLT]
   refine Kv [2,1] ?_ (by decide) ?_ ?_
   ·simp[Ji,reB,hp,hn]
   ·simp[keeps,Hr]
   ·simp[NZ,reA,reC,hp]<;>omega
 ·simp only[e1,e2,e3,CC.down,Fo,wr1,Nat.reduceEqDiff,reduceCtorEq,Nat.reduceAdd,Nat.reduceLeDiff,Nat.reduceLT]
  have m1:i+(n+1-i)=n+1:=by omega
  have m2:min 1 (n+1-i)=1:=by omega
  have m3:min 1 (n-i)=1:=by omega
  have m4:n+1-(i+1)=n-i:=by omega
  have m5:min (n-i) (n-i)=n-i:=by omega
  have m6:(rows.drop i).length=n-i:=by simp[hn]
  have m7:(rows.drop i).take (n-i)=rows.drop i:=List.take_of_length_le (by omega)
  have m8:(rows.take i).length=i:=by simp;omega
  have m9:∀z:List D,(rows.take i++List.replicate (n+1-i) z).take i=rows.take i:=fun z=>by
   rw[List.take_append_of_le_length (by omega),List.take_take,Nat.min_self]
  have m10:∀z:List D,(rows.take i++List.replicate (n+1-i) z).drop (i+1)=List.replicate (n-i) z:=fun z=>by
   rw[List.drop_append,m8,List.drop_of_length_le (by omega)];simp;omega
  have m11:∀z:List D,(rows.take i++[x]++List.replicate (n-i) z).take (i+1)=rows.take i++[x]:=fun z=>by
   rw[List.take_append_of_le_length (by simp;omega),List.take_of_length_le (by simp;omega)]
  have m12:∀z:List D,(rows.take i++[x]++List.replicate (n-i) z).drop (i+1+(n-i))=[]:=fun z=>List.drop_of_length_le (by simp;omega)
  refine Bg (fun hcap=>?_) (fun hcap=>?_)
  ·simp only[e1,e2,e3,Nat.sub_zero,CC.down,Fo,wr1,Nat.reduceEqDiff,reduceCtorEq,Nat.reduceAdd,Nat.reduceLeDiff,Nat.reduceLT]
   refine⟨by omega,by omega,by omega,.inr ⟨by simp<;>omega,by simp<;>omega,?_⟩⟩
   simp only[e1,e2,e3,Nat.sub_zero,List.length_replicate,m1,m2,m4,m5,m8,m9,m10,Nat.add_sub_cancel_left,CC.down,Fo,wr1,Nat.reduceEqDiff,reduceCtorEq,Nat.reduceAdd,Nat.reduceLeDiff,Nat.reduceLT]
   refine⟨by omega,by rw[List.length_append,List.length_replicate];omega,?_⟩
   simp only[e1,e2,e3,Nat.sub_zero,List.length_replicate,m1,m2,m4,m5,m6,m7,m8,m9,m10,m11,m12,Nat.add_sub_cancel_left,Nat.min_self,CC.down,Fo,wr1,Nat.reduceEqDiff,reduceCtorEq,Nat.reduceAdd,Nat.reduceLeDiff,Nat.reduceLT]
   refine⟨by omega,by omega,by omega,by rw[List.length_append,List.length_append,List.length_replicate];simp;omega,?_⟩
   refine Kv [2,1] ?_ (by decide) ?_ ?_
   ·simp[Ji,reB,hp]
   ·simp[keeps,Hr]
   ·simp[NZ,reA,reC,hp]<;>omega
  ·simp only[e1,e2,e3,Nat.sub_zero,Nat.add_sub_cancel_left,CC.down,Fo,wr1,Nat.reduceEqDiff,reduceCtorEq,Nat.reduceAdd,Nat.reduceLeDiff,Nat.reduceLT]
   refine⟨by omega,by omega,?_⟩
   refine Ty [1,0] (hov e' e 0 (i+1) 1 _ none _ [x] rows) rfl ?_ ?_ (by decide) ?_
   ·simp[A1.live,C.live,hp]
   ·simp[inA,hp,Blk.Rq]
   simp only[Dn,Blk.ren,rn,AV.ren,A1.ren,C.ren,e1,e2,e3,Nat.sub_zero,CC.down,Fo,wr1,Nat.reduceEqDiff,reduceCtorEq,Nat.reduceAdd,Nat.reduceLeDiff,Nat.reduceLT]
   refine⟨by omega,by omega,by omega,by omega,by omega,by omega,?_,?_⟩
   ·simp;omega
   ·have m13:min (n+1-i) (n-i)=n-i:=by omega
    have m14:rows.drop (i+1+(n-i))=[]:=List.drop_of_length_le (by omega)
    have m17:(rows.take (i+1)).length=i+1:=by simp;omega
    have m15:(rows.take (i+1)++rows.drop i).take i=rows.take i:=by
     rw[List.take_append_of_le_length (by omega),List.take_take];congr 1;omega
    have m16:(rows.take (i+1)++rows.drop i).drop (i+1)=rows.drop i:=by
     rw[List.drop_append,m17,List.drop_of_length_le (by omega)];simp
    simp only[m2,m4,m13,m7,m6,m5,m14,m15,m16,List.append_nil,List.take_succ_cons,List.take_zero,List.length_cons,List.length_nil,Nat.zero_add]
    refine Kv [0,1] ?_ (by decide) ?_ ?_
    ·simp[Ji,reB,hp]
    ·simp[keeps,Hr]
    ·simp[NZ,reA,reC,hp]<;>omega
theorem PN(hf:afn P f=some (Im sz bt z))(rows:List (List D))(i j e n:Nat)(hn:rows.length=n)(hij:i≤j)(hj:j≤n)(hl:n≤4294967290)(hs:IZ rows sz):
 An P f [.c (.own 0 e 0 n none),aI i,aI j] [some (.arr e sz rows)] (.one (.c (.own 0 (e+1) 0 (n-(j-i)) none))) [some (.arr (e+1) sz (rows.take i++rows.drop j))]:=by
 refine An.cap fun c hc=>?_
 refine SB (A:=Im sz bt z) (res:=[.c (.own 0 (e+1) 0 (n-(j-i)) none)]) hf (by simp[Im]) ?_
 simp only[Im,Nat.sub_zero,CC.down,Fo,wr1,Nat.reduceEqDiff,reduceCtorEq,Nat.reduceAdd,Nat.reduceLeDiff,Nat.reduceLT]
 refine⟨by omega,?_⟩
 refine Bg (fun hin=>?_) (fun hin=>?_)
 ·have hij':i=j:=by omega
  subst hij'
  simp only[CC.down,Fo,wr1,Nat.reduceEqDiff,reduceCtorEq,Nat.reduceAdd,Nat.reduceLeDiff,Nat.reduceLT]
  refine Kv [0] ?_ (by decide) ?_ ?_
  ·simp[Ji,reB,hp]
  ·simp[keeps,Hr]
  ·simp[NZ,reA,reC,hp]<;>omega
 ·have m7:(rows.drop j).take (n-j)=rows.drop j:=List.take_of_length_le (by simp;omega)
  have m6:(rows.drop j).length=n-j:=by simp[hn]
  have m8:(rows.take i).length=i:=by simp;omega
  simp only[Nat.sub_zero,m7,m6,CC.down,Fo,wr1,Nat.reduceEqDiff,reduceCtorEq,Nat.reduceAdd,Nat.reduceLeDiff,Nat.reduceLT]
  refine⟨by omega,by omega,by omega,by omega,.inl ⟨by omega,?_⟩⟩
  simp only[Nat.sub_zero,m7,m6,m8,List.length_replicate,CC.down,Fo,wr1,Nat.reduceEqDiff,reduceCtorEq,Nat.reduceAdd,Nat.reduceLeDiff,Nat.reduceLT]
  have m9:(rows.take i++rows.drop j++rows.drop (i+(n-j))).take (i+(n-j))=rows.take i++rows.drop j:=by
   rw[List.take_append_of_le_length (by simp;omega),List.take_of_length_le (by simp;omega)]
  refine⟨by omega,by simp;omega,?_⟩
  rw[m9]
  refine Kv [0] ?_ (by decide) ?_ ?_
  ·simp only[Ji,reB,hp,List.getElem?_cons_zero,Option.join_some,true_and,and_true]
   exact .inr ⟨_,List.append_assoc _ _ _⟩
  ·simp[keeps,Hr]
  ·simp[NZ,reA,reC,hp]<;>omega
end
def BI{α:Type}(xs:List α):Option (List α):=if xs.length≤4294967290 then some xs else none
def Tq{α:Type}(xs:List α)(i:Int)(x:α):Option (List α):=if 0≤i∧i≤xs.length∧xs.length≤4294967289 then some (xs.take i.toNat++x::xs.drop i.toNat)else none
def Tv{α:Type}(xs:List α)(i j:Int):Option (List α):=if 0≤i∧i≤j∧j≤xs.length∧xs.length≤4294967290 then some (xs.take i.toNat++xs.drop j.toNat)else none
section
variable {P:Program} {f g rr:FuncId} {sz bt:Nat} {z:List D} {α:Type} {enc:α→List D}
theorem QS(hs:∀y,(enc y).length=sz)(xs:List α):IZ (xs.map enc) sz:=fun r hr=>by
 obtain⟨y,_,rfl⟩:=List.mem_map.1 hr;exact hs y
theorem EZ(hf:afn P f=some (Eo sz bt))(hs:∀y,(enc y).length=sz){xs r:List α}(h:BI xs=some r):An P f [.c (.d (.sl (xs.map enc)))] [] (AL [.c (.own 0 1 0 r.length none)]) [some (.arr 1 sz (r.map enc))]:=by
 unfold BI at h
 split at h
 ·cases h
  have:=Rv hf (xs.map enc) (by simp;omega) (QS hs xs)
  rw[List.length_map]at this
  exact this
 ·cases h
theorem VI(hf:afn P f=some (Ih sz bt z g rr))(hov:∀(e0 e1 o0 o1 l0 l1:Nat) (c0 c1:Option Nat) (r0 r1:List (List D)),An P g [.c (.own 0 e0 o0 l0 c0),.c (.own 1 e1 o1 l1 c1)] [some (.arr e0 sz r0),some (.arr e1 sz r1)] (.one (aB false)) [some (.arr e0 sz r0),some (.arr e1 sz r1)])
 (hs:∀y,(enc y).length=sz) {xs r:List α} {i:Int} {x:α} {e0 e1:Nat} (h:Tq xs i x=some r):
 An P f [.c (.own 0 e0 0 xs.length none),aI i,.c (.own 1 e1 0 [x].length none)] [some (.arr e0 sz (xs.map enc)),some (.arr e1 sz ([x].map enc))] (AL [.c (.own 0 (e0+1) 0 r.length none)]) [some (.arr (e0+1) sz (r.map enc)),some (.arr e1 sz ([x].map enc))]:=by
 unfold Tq at h
 split at h
 ·rename_i h0
  cases h
  obtain⟨n,rfl⟩:∃n:Nat,i=n:=⟨i.toNat,by omega⟩
  have:=PB hf hov (xs.map enc) (enc x) n e0 e1 xs.length (by simp) (by omega) (by omega) (QS hs xs) (hs x)
  have e:(xs.take n++x::xs.drop n).length=xs.length+1:=by simp;omega
  have e2:(xs.take n++x::xs.drop n).map enc=(xs.map enc).take n++enc x::(xs.map enc).drop n:=by simp
  rw[Int.toNat_natCast,e,e2]
  exact this
 ·cases h
theorem VJ(hf:afn P f=some (Im sz bt z))(hs:∀y,(enc y).length=sz){xs r:List α}{i j:Int}{e0:Nat}(h:Tv xs i j=some r):
 An P f [.c (.own 0 e0 0 xs.length none),aI i,aI j] [some (.arr e0 sz (xs.map enc))] (AL [.c (.own 0 (e0+1) 0 r.length none)]) [some (.arr (e0+1) sz (r.map enc))]:=by
 unfold Tv at h
 split at h
 ·rename_i h0
  cases h
  obtain⟨n,rfl⟩:∃n:Nat,i=n:=⟨i.toNat,by omega⟩
  obtain⟨m,rfl⟩:∃n:Nat,j=n:=⟨j.toNat,by omega⟩
  have:=PN hf (xs.map enc) n m e0 xs.length (by simp) (by omega) (by omega) (by omega) (QS hs xs)
  have e:(xs.take n++xs.drop m).length=xs.length-(m-n):=by simp;omega
  rw[Int.toNat_natCast,Int.toNat_natCast,e,List.map_append,List.map_take,List.map_drop]
  exact this
 ·cases h
end
end Go.Fw
namespace Go.Fw
theorem AN{α:Type}{xs:List α}{off len:Nat}{z:α}(h:off+len≤xs.length):(Yr xs off len z).length=xs.length:=by
 simp only[Yr,List.length_append,List.length_take,List.length_replicate,List.length_drop];omega
def GR(a b:ByteArray):Int:=if lt a b then-1 else if a=b then 0 else 1
def XR(a b:ByteArray):Option Int:=some (GR a b)
theorem Xa:∀x y:List UInt8,Lib.compareBytes x y=if Op.bytesLess x y=true then-1 else if Op.bytesLess y x=true then 1 else 0
 |[],[]=>rfl
 |[],_::_=>rfl
 |_::_,[]=>rfl
 |a::x,b::y=>by
  have ih:=Xa x y
  simp only[Lib.compareBytes,Op.bytesLess,Bool.or_eq_true,decide_eq_true_eq,Bool.and_eq_true,beq_iff_eq]
  by_cases h1:a<b
  ·rw[if_pos h1,if_pos (.inl h1)]
  ·by_cases h2:b<a
   ·rw[if_neg h1,if_pos h2,if_neg,if_pos (.inl h2)]
    rintro(h|⟨rfl,_⟩)
    ·exact h1 h
    ·exact h1 h2
   ·have hab:a=b:=UInt8.le_antisymm (UInt8.not_lt.1 h2) (UInt8.not_lt.1 h1)
    subst hab
    rw[if_neg h1,if_neg h1,ih]
    simp[h1]
theorem Vn(a b:ByteArray):Extern.BytealgCompare.cmp a b=GR a b:=by
 rw[Lib.cmp_eq,Xa]
 have e:∀s:ByteArray,s.data.toList=s.toList:=fun s=>(ByteArray.toList_eq s).symm
 rw[e,e]
 unfold GR
 by_cases h1:Op.bytesLess a.toList b.toList=true
 ·rw[if_pos h1,if_pos (show lt a b from h1)]
 ·rw[if_neg h1,if_neg (show¬lt a b from h1)]
  by_cases h2:Op.bytesLess b.toList a.toList=true
  ·rw[if_pos h2,if_neg]
   rintro rfl;exact h1 h2
  ·rw[if_neg h2,if_pos]
   exact N5 h1 h2
theorem Yt{P:Program}{f:FuncId}{fn:Func}(hf:P.funcs[f]? =some fn)(hname:(fn.name== "runtime.NumGoroutine")=false)(hb:fn.body.isNone=true)(hn:Extern.findNext fn=none)
 (he:Extern.find fn=some Extern.BytealgCompare.compare) {a b:ByteArray} {r:Int} (h:XR a b=some r):An P f [.c (.d (.v (.string a))),.c (.d (.v (.string b)))] [] (AL [.c (.d (.v (.int .i64 r)))]) []:=by
 cases h
 intro φ F w vs hr hA
 cases hA with
 |cons hx hA=>
  cases hA with
  |cons hy hA=>
   cases hA
   cases hx;cases hy
   refine .inr ⟨.int .i64 (GR a b),w,?_,φ,F,Bz.v _ rfl,hr,Stp.refl _ _ _ _,Fr.refl _ _ _⟩
   rw[run_callFunc_extern hf hname hb hn he]
   have e:(Extern.BytealgCompare.compare #[.string a,.string b]).run P w= .ok (.int .i64 (Extern.BytealgCompare.cmp a b)) w:=rfl
   rw[←Vn]
   show((Extern.BytealgCompare.compare #[.string a,.string b]).run P w).andThen _=_
   rw[e];rfl
end Go.Fw
namespace Go.Fw
open Go.Sort Go.Proofs Go.Shelf
theorem Aw{α β:Type}{f:α→β}{l:List α}:List.take l.length (List.map f l)=List.map f l:=by
 rw[←List.length_map f,List.take_length]
def lit{α:Type}(xs:List α):List α:=xs
def bl(b:ByteArray):List UInt8:=b.data.toList
def lb(l:List UInt8):ByteArray:=⟨l.toArray⟩
theorem Ng(b:ByteArray):lb (bl b)=b:=by cases b;simp[lb,bl]
theorem PU(l:List UInt8):bl (lb l)=l:=by simp[lb,bl]
def Rj(x:List UInt8):List (List UInt8)→List (List UInt8)
 |[]=>[x]
 |y::r=>if Op.bytesLess y x then y::Rj x r else x::y::r
def U7:List (List UInt8)→List (List UInt8)
 |[]=>[]
 |x::r=>Rj x (U7 r)
def DW(xs:List ByteArray):List ByteArray:=(U7 (xs.map bl)).map lb
theorem KB:∀x y:List UInt8,Op.bytesLess x y=decide (x<y)
 |[],[]=>by simp[Op.bytesLess]
 |[],b::y=>by simp[Op.bytesLess]
 |a::x,[]=>by simp[Op.bytesLess]
 |a::x,b::y=>by
  rw[Op.bytesLess,KB x y,Bool.eq_iff_iff]
  simp only[Bool.or_eq_true,decide_eq_true_eq,Bool.and_eq_true,beq_iff_eq,List.cons_lt_cons_iff]
theorem Kt(x:List UInt8):∀l,(Rj x l).Perm (x::l)
 |[]=>List.Perm.refl _
 |y::r=>by
  unfold Rj;split
  ·exact((Kt x r).cons y).trans (List.Perm.swap x y r)
  ·exact List.Perm.refl _
theorem Nj:∀l,(U7 l).Perm l
 |[]=>List.Perm.refl _
 |x::r=>(Kt x _).trans ((Nj r).cons x)
theorem Sq(x:List UInt8):∀{l:List (List UInt8)},l.Pairwise (·≤·)→(Rj x l).Pairwise (·≤·)
 |[],_=>by simp[Rj]
 |y::r,h=>by
  have h2:=List.pairwise_cons.1 h
  unfold Rj;split
  ·rename_i hl
   rw[KB,decide_eq_true_eq]at hl
   refine List.pairwise_cons.2 ⟨fun z hz=>?_,Sq x h2.2⟩
   rcases List.mem_cons.1 ((Kt x r).mem_iff.1 hz)with e|hz
   ·subst e;exact List.le_of_lt hl
   ·exact h2.1 z hz
  ·rename_i hl
   rw[KB,decide_eq_true_eq]at hl
   refine List.pairwise_cons.2 ⟨fun z hz=>?_,h⟩
   rcases List.mem_cons.1 hz with e|hz
   ·subst e;exact List.not_lt.1 hl
   ·exact List.le_trans (List.not_lt.1 hl) (h2.1 z hz)
theorem Sr:∀l,(U7 l).Pairwise (·≤·)
 |[]=>List.Pairwise.nil
 |x::r=>Sq x (Sr r)
theorem WE(l:List (List UInt8)):U7 l=l.mergeSort fun x y=>decide (x≤y):=by
 refine List.Perm.eq_of_pairwise (le:=(·≤·)) (fun a b _ _ h1 h2=>List.le_antisymm h1 h2) (Sr l) ?_ ((Nj l).trans (List.mergeSort_perm l _).symm)
 refine(List.pairwise_mergeSort (le:=fun x y:List UInt8=>decide (x≤y)) (fun a b c h1 h2=>by simp only[decide_eq_true_eq]at*;exact List.le_trans h1 h2) (fun a b=>by simp only[Bool.or_eq_true,decide_eq_true_eq];exact List.le_total a b) l).imp fun{a b} h=>by simpa using h
theorem G3(xs:List ByteArray):DW xs=((xs.map bl).mergeSort fun x y=>decide (x≤y)).map lb:=by rw[DW,WE]
end Go.Fw
namespace Go.Proofs
open Go.RowKit Go.Maps Go.Sort Go.Shelf
variable {P:Program} {ρ:Ren}
end Go.Proofs
namespace Go.Fw
open Go.RowKit Go.Sort Go.Shelf Go.Proofs
structure YW(P:Program)(g:Nat):Prop where
 full:∀(n:Nat),1≤n→∀(l Bs b off len cap:Nat) (zs:List (List UInt8)),len*16≤140737488351232→∀(J:List (List UInt8)→World→Prop) (w:World),b<w.heap.size→
  (∀pre W,J pre W→RowKit.Below w.heap.size w W)→
  (∀pre x W,J pre W→pre.length<len→YieldAt Fence.wide (n-1) P l #[encStr x] W fun e W'=>e= .returned (.bool true)∧J (pre++[x]) W'∧KeepsWalks W W')→
  ∀(W:World),W.cell? ⟨Bs,0,none⟩=some (.slice (some ⟨b,off,none⟩) len cap)→(∀j,j<len→w.cell? ⟨b,off+j,none⟩=some (encStr (zs[j]?.getD [])))→J [] W→
  CallsIn Fence.wide n P g #[.func (.yield l) #[] #[],.pointer (some ⟨Bs,0,none⟩)] W fun e W'=>(∃v,e= .returned v)∧∃ys,ys=(List.range len).map (fun j=>zs[j]?.getD [])∧J ys W'
 none:∀(n l Bs:Nat) (J:List (List UInt8)→World→Prop) (W:World) (p:Option Addr) (cap:Nat),W.cell? ⟨Bs,0,none⟩=some (.slice p 0 cap)→J [] W→
  CallsIn Fence.wide n P g #[.func (.yield l) #[] #[],.pointer (some ⟨Bs,0,none⟩)] W fun e W'=>(∃v,e= .returned v)∧J [] W'
end Go.Fw
namespace Go.Fw
open Go.RowKit Go.Maps Go.Sort Go.Shelf Go.Proofs Go.MapKept
open Go.WideElems (Fit rd rg)
def Rn(_:Value):Option (DataW Unit×List MemPlace):=some (.lit (.bool false),[])
def KR(ks:List ByteArray):Option (List ByteArray):=if ks.length≤4294967290∧(∀k∈ks,k.size≤4294967290)then some (DW ks)else none
theorem Ux{P:Program}{k:TypeId}(hk:P.underlying k=some .string){x:MapEntry}{s:ByteArray}(hx:x.key= .string s)(hs:s.size≤4294967290):
 rd P k Rn x=some (.string s.data.toList,.lit (.bool false)):=by
 have h1:keyOf P k x.key=some (.string s.data.toList):=by
  simp only[keyOf,hk,hx,mapKey]
  simp;unfold maxLen;omega
 rw[rd.eq_1,h1]
 rfl
theorem Tl{φ:Phi}{F:Nat→Prop}{G:BX}{w:World}{P:Program}{k:TypeId}(hk:P.underlying k=some .string){id b:Nat}{ents:List (Value×A1)}(hφ:φ id=some (b,0))(hB:H7 φ F G w id (.map ents)){ks:List ByteArray}(he:ents.map Prod.fst=ks.map Value.string)(hl:ks.length≤4294967290)(hs:∀k∈ks,k.size≤4294967290):
 ∃D0:DataW Unit,w.ownsMap P k Rn b ks.length D0∧(strKeys D0).Perm (ks.map bl)∧Maps.size D0=ks.length:=by
 obtain⟨b',es,clock,h1,h2,h4,h3⟩:=hB
 rw[hφ]at h1
 simp only[Option.some.injEq,Prod.mk.injEq]at h1
 obtain⟨rfl,_⟩:=h1
 have hkeys:es.toList.map (·.key)=ks.map Value.string:=by
  rw[←he]
  clear he h2 h4
  generalize es.toList=l at h3
  induction h3 with
  |nil=>rfl
  |cons hx _ ih=>rw[List.map_cons,List.map_cons,ih,hx.1]
 have hsz:es.size=ks.length:=by
  have:=congrArg List.length hkeys
  simpa using this
 have each:∀x∈es.toList,∃s,s∈ks∧x.key= .string s:=by
  intro x hx
  have:x.key∈es.toList.map (·.key):=List.mem_map.2 ⟨x,hx,rfl⟩
  rw[hkeys]at this
  obtain⟨s,hs1,hs2⟩:=List.mem_map.1 this
  exact⟨s,hs1,hs2.symm⟩
 have reads:∀x∈es.toList,∃y,rd P k Rn x=some y:=by
  intro x hx
  obtain⟨s,hs1,hs2⟩:=each x hx
  exact⟨_,Ux hk hs2 (hs s hs1)⟩
 have hrg:(es.toList.map (rg P k Rn)).map (fun p=>strOf p.1)=ks.map bl:=by
  have:∀(l:List MapEntry) (qs:List ByteArray),l.map (·.key)=qs.map Value.string→(∀q∈qs,q.size≤4294967290)→(l.map (rg P k Rn)).map (fun p=>strOf p.1)=qs.map bl:=by
   intro l
   induction l with
   |nil=>intro qs hq _;cases qs with
    |nil=>rfl
    |cons q qs=>simp at hq
   |cons x l ih=>
    intro qs hq hs'
    cases qs with
    |nil=>simp at hq
    |cons q qs=>
     simp only[List.map_cons,List.cons.injEq]at hq⊢
     refine⟨?_,ih qs hq.2 fun z hz=>hs' z (List.mem_cons_of_mem _ hz)⟩
     unfold rg
     rw[Ux hk hq.1 (hs' q (List.mem_cons_self ..))]
     rfl
  exact this _ _ hkeys hs
 refine⟨.map ((es.toList.map (rg P k Rn)).foldr DataW.insert []),⟨es,clock,h2,⟨by rw[hsz];unfold maxLen;omega,h4,reads⟩,by omega,rfl⟩,?_,?_⟩
 ·show(((es.toList.map (rg P k Rn)).foldr DataW.insert []).map fun p=>strOf p.1).Perm _
  have hp:=(Go.WideShapes.sorted_perm (es.toList.map (rg P k Rn))).map fun p=>strOf p.1
  rw[hrg]at hp;exact hp
 ·show((es.toList.map (rg P k Rn)).foldr DataW.insert []).length=_
  rw[(Go.WideShapes.sorted_perm (es.toList.map (rg P k Rn))).length_eq]
  simp[hsz]
theorem OC{P:Program}{f g:FuncId}{ρ ρ2 ρ3:Ren}(L:SlLaysZ.n6 P ρ)(L2:SlLaysZ.n10 P ρ2)(L3:Lays.n190 P ρ3)(hf:ρ.f 6=f)(hok:Th P f=true)(hg:ρ2.f 10=g)(h9:ρ3.f 190=ρ.f 9)
 (e9:∀args w,(callFunc (ρ.f 9) args).run P w= .ok (.enter (ρ.f 9) args) w) (eg:∀args w,(callFunc g args).run P w= .ok (.enter g args) w)
 {ents:List (Value×A1)} {ks r:List ByteArray} (he:ents.map Prod.fst=ks.map Value.string) (h:KR ks=some r):
 An P f [.c (.fn g [(0,0)])] [some (.box [.mref 1]),some (.map ents)] (AL [.c (.own 2 0 0 r.length none)]) [some (.box [.mref 1]),some (.map ents),some (.arr 0 1 (r.map eS))]:=by
 unfold KR at h
 split at h
 ·rename_i hl
  cases h
  intro φ F w vs hr hA
  cases hA with
  |cons hv hA=>
   cases hA
   obtain⟨us,rfl,hul,hus⟩:=hv
   obtain⟨cells,b,o,hG,hφ,hu0⟩:=hus 0 (0,0) rfl
   cases hG
   obtain⟨b',cs,T,hφ',hblk,hcs⟩:=hr.blk 0 _ rfl
   rw[hφ]at hφ'
   simp only[Option.some.injEq,Prod.mk.injEq]at hφ'
   obtain⟨rfl,rfl⟩:=hφ'
   have husl:us=[.pointer (some ⟨b,0,none⟩)]:=by
    match us,hul,hu0 with
    |[u],_,hu0=>simpa using hu0
   subst husl
   have hlt:b<w.heap.size:=hr.lt hφ
   obtain⟨mb,hcsl,hmφ⟩:∃mb,cs.toList=[.map (some mb)]∧φ 1=some (mb,0):=by
    revert hcs
    generalize cs.toList=cl
    intro hcs
    cases hcs with
    |cons h1 h2=>
     cases h2
     obtain⟨_,mb,_,hm,rfl⟩:=h1
     exact⟨mb,rfl,hm⟩
   have hcell:w.cell? ⟨b,0,none⟩=some (.map (some mb)):=by
    rw[cell?_of_heap hblk]
    have:cs= #[.map (some mb)]:=by cases cs;simp at hcsl;simp[hcsl]
    rw[this];rfl
   obtain⟨D0,hown,hperm,hsize⟩:=Tl L2.t26 hmφ (hr.blk 1 _ rfl) he hl.1 hl.2
   refine .inl ⟨hok,?_⟩
   have hseq:=AnyZ.keys_gives L2 Fence.wide (6-1-1-1) trivial rfl (by omega) b mb ks.length D0 w hlt hcell hown
   rw[hg]at hseq
   have hsort:AnyZ.SortsIn P ρ Fence.wide (6-1):=by
    refine⟨fun blk off cap ss W hh hb hn=>callsIn_wide.2 ?_,fun p cap W=>callsIn_wide.2 ?_⟩
    ·have:=Any.slices_Sort_string L3 blk off cap ss W hh hb hn
     rw[h9]at this;exact this
    ·have:=Any.slices_Sort_string_none L3 p cap W
     rw[h9]at this;exact this
   have hC:=AnyZ.sorted_in L Fence.wide 6 trivial trivial trivial trivial rfl (by omega) hsort e9 g #[.pointer (some ⟨b,0,none⟩)] trivial eg _ (Maps.size D0) (by rw[hsize];unfold maxLen;omega) (by rw[hsize];omega) w hseq
   rw[hf]at hC
   refine(callsIn_wide.1 hC).mono ?_
   rintro e w' ⟨v,ss,rfl,hS,hrow,hnil,hB⟩
   refine⟨v,rfl,?_⟩
   have hss:(ss.mergeSort fun x y=>decide (x≤y))=(DW ks).map bl:=by
    have:=mergeSort_of_perm (hS.trans hperm)
    show ss.mergeSort leB=_
    rw[this,G3,List.map_map]
    have:(bl∘lb)=id:=funext PU
    rw[this,List.map_id]
   have hlen0:ss.length=(DW ks).length:=by
    have:=congrArg List.length hss
    simpa using this
   rw[hss,hlen0]at hrow
   have hnil':v= .slice none 0 0→DW ks=[]:=fun hv=>by
    have:=hnil.1 hv
    subst this
    exact List.length_eq_zero_iff.1 hlen0.symm
   clear hss hnil hS hlen0
   generalize DW ks=xs at hrow hnil'⊢
   have updG:upd (hp [some (.box [.mref 1]),some (.map ents)]) 2 (some (.arr 0 1 (xs.map eS)))=hp [some (.box [.mref 1]),some (.map ents),some (.arr 0 1 (xs.map eS))]:=by
    funext j
    match j with
    |0=>simp[upd,hp]
    |1=>simp[upd,hp]
    |2=>simp[upd,hp]
    |j+3=>simp[upd,hp]
   have hφ2:φ 2=none:=by
    cases h1:φ 2 with
    |none=>rfl
    |some x=>have:=hr.dom 2 x h1;simp[hp]at this
   rcases hrow.2 with⟨rfl,hz⟩|⟨gb,cap,cur,rfl,hbase,hgb,r1,r2,r3,r4⟩
   ·have hxs:xs=[]:=hnil' rfl
    subst hxs
    have:=hr.update 2 none (.arr 0 1 (([]:List ByteArray).map eS)) w' hB.size ⟨hB.os,hB.output⟩ (fun c hc _=>hB.block c hc) (fun c oc hc=>by cases hc) trivial (fun _=> .inl ⟨by simp,rfl⟩)
    rw[updG]at this
    refine⟨_,F,?_,this.1,this.2.1,this.2.2⟩
    exact⟨0,1,_,rfl,Nat.le_refl _,_,_,_,rfl,fun _=>⟨rfl,Nat.le_refl _,by simp,by simp,.inl rfl⟩⟩
   ·have hlen:(xs.map bl).length=xs.length:=List.length_map _
    have:=hr.update 2 (some (gb,0)) (.arr 0 1 (xs.map eS)) w' hB.size ⟨hB.os,hB.output⟩ (fun c hc _=>hB.block c hc) (fun c oc hc=>by cases hc;exact .inr hbase) trivial (fun _=>by
     refine .inr ⟨gb,0,cur,_,by simp,hgb,?_,?_,?_⟩
     ·simp only[List.length_map]at*;omega
     ·intro row hrow
      obtain⟨y,_,rfl⟩:=List.mem_map.1 hrow;rfl
     ·intro i row hi j d hj
      rw[List.getElem?_map,Option.map_eq_some_iff]at hi
      obtain⟨y,hy',rfl⟩:=hi
      cases j with
      |succ j=>simp[eS]at hj
      |zero=>
       simp only[eS,List.getElem?_cons_zero,Option.some.injEq]at hj
       subst hj
       refine⟨.string y,?_,.v _ rfl⟩
       have hi2:=(List.getElem?_eq_some_iff.1 hy').1
       have h2:(cur.toList.take (xs.length*1))[i]? =some (.string y):=by
        rw[r4,List.map_map,List.getElem?_map,hy']
        show some (Value.string (lb (bl y)))=_
        rw[Ng]
       rw[List.getElem?_take_of_lt (by omega)]at h2
       simpa using h2)
    rw[updG]at this
    refine⟨_,F,?_,this.1,this.2.1,this.2.2⟩
    refine⟨0,1,_,rfl,Nat.le_refl _,_,_,_,rfl,fun _=>⟨rfl,r1,by simp,by simp,.inr ⟨gb,0,cur.size,by simp,by simp,?_,?_⟩⟩⟩
    ·simp[bsize,hgb]
    ·rw[r3];omega
 ·cases h
end Go.Fw
