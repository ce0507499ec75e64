/- Contracts of slices.Clone, slices.Insert, slices.Delete, and of the compare of strings. -/
import Derived.Test.YtojbebejhgbfeaaGreatFP
import Derived.Lib.Bytealg
import Derived.Laws.Externs
import Derived.Shelf.Sort.Plain
import Derived.Shelf.Slices.In.SortNone
import Derived.Shelf.Slices.CompactS
import Derived.Lib.RowBridge
import Derived.Maps.RangeRun
open Option renaming some->XC,map_eq_some_iff->XD,bind_eq_some_iff->XF,none->XG,join_some->XH,map_some->XI
open List renaming getElem?_eq_some_iff->XJ,getElem?_set_self->XK,getElem?_set_ne->XL,length_map->XM,getElem?_eq_getElem->XN,length_replicate->XO,length_append->XP,getElem?_cons_zero->XQ,take_append_of_le_length->XR,length_set->XS,getElem?_eq_none->XU,mem_of_getElem?->XV,getElem?_append->XW,getElem?_take->XX,getElem?_drop->XY,take_of_length_le->XZ,replicate->X0,getElem?_map->X1,drop_of_length_le->X2,length_take->X3,length_cons->X4,range'->X5,size_toArray->X6,getElem?_cons_succ->X7,append_nil->X8,take_succ_cons->X9,pairwise_cons->Ya,getElem?_set->Yb,length_drop->Yc,eq_nil_iff_forall_not_mem->Yd,drop_left->Ye,mem_or_eq_of_mem_set->Yf,getElem?_append_left->Yg,mem_cons->Yh,length_eq_zero_iff->Yi,length_eq_one_iff->Yj,drop_succ_cons->Yk,append_assoc->Yl,drop_append->Ym,cons_append->Yn,map_append->Yo,length_nil->Yp,take_zero->Yq,take_take->Yr,le_trans->Ys,mem_map->Yt,not_lt->Yu,length->Yv,mapM->Yw,map->Yx
open And renaming intro->Yy,left->Yz
open Nat renaming le_refl->YA,reduceLeDiff->YB,reduceEqDiff->YC,reduceAdd->YD,reduceLT->YE,add_zero->YF,zero_mul->YG,mul_le_mul_right->YH,sub_zero->YI,succ_mul->YJ,lt_of_lt_of_le->YK,add_sub_cancel_left->YL,zero_add->YM,zero_le->YN,le_trans->YO,mul_one->YP,lt_or_gt_of_ne->YQ,min_self->YR
open Array renaming getElem?_eq_getElem->YS,getD_eq_getD_getElem?->YT,getElem?_push->YU,getElem?_setIfInBounds->YV,replicate->YW,getElem?_append_left->YX,getElem?_replicate->YY,getElem?_toList->YZ,length_toList->Y0,getElem_mem->Y1,getElem?_eq_some_iff->Y2,getElem?_eq_none->Y3,getElem?_modify->Y4,ext_getElem?->Y5,size_push->Y6
open Go renaming Program->Y7,World->Y8,FuncId->Y9,Oper->Za,execOp->Zb,Exit->Zc
open Bool renaming false_eq_true->Zd,false->Ze,true->Zf,and_eq_true->Zg,or_eq_true->Zh,not_eq_true'->Zi
open Option.some renaming injEq->Zj,inj->Zk
open Go.Region renaming ready->Zl,wanted->Zm,binds->Zn
open Go.Extern.BytealgCompare renaming compare->Zo,cmp->Zp
open Go.Op renaming bytesLess->Zq
open Ne renaming symm->Zr
open Prod.mk renaming injEq->Zs
open PLift renaming up->Zt
open Int renaming toNat_natCast->Zu
open List.Perm renaming refl->Zv,swap->Zw,eq_of_pairwise->Zx
open Go.Sort renaming ahead->Zy
open Go.Lib renaming compact->Zz
set_option linter.unusedVariables false
set_option linter.unusedSimpArgs false
set_option linter.unusedSectionVars false
namespace Go.Fw
set_option maxRecDepth 100000
set_option maxHeartbeats 4000000
def C0:=Zt (Yy (Yy (Yy (Yy @Bj (Yy @BQ @tp)) (Yy @EJ (Yy @AX @Ia))) (Yy (Yy @wT (Yy @wV @wU)) (Yy @rq (Yy @ru @fU.eq_1)))) (Yy (Yy (Yy @gh.eq_1 (Yy @gh.eq_2 @St.ev.eq_1)) (Yy @St.ev.eq_2 (Yy @St.ev.eq_3 @St.e9.eq_1))) (Yy (Yy @St.eZ.eq_1 (Yy @lk.eq_1 @lk.eq_2)) (Yy @fE.eq_1 (Yy @fE.eq_2 @gO.eq_1)))))
def C1:=Zt (Yy (Yy (Yy (Yy @gO.eq_2 (Yy @ret.eq_1 @ey.eq_1)) (Yy @xc.eq_1 (Yy @xc.eq_2 @zB.eq_1))) (Yy (Yy @zB.eq_2 (Yy @gg.eq_1 @gg.eq_2)) (Yy @zH.eq_1 (Yy @zH.eq_2 @rN.eq_1)))) (Yy (Yy (Yy @rN.eq_2 (Yy @rN.eq_3 @od.eq_1)) (Yy @od.eq_2 (Yy @kQ.eq_1 @kQ.eq_2))) (Yy (Yy @kQ.eq_3 (Yy @Ps.eq_1 @if_true.{1})) (Yy @if_true.{0} (Yy @if_false.{1} @if_false.{0})))))
def C2:=Zt (Yy (Yy (Yy (Yy @fA.eq_1 (Yy @fA.eq_2 @fA.eq_3)) (Yy @fA.eq_4 (Yy @fA.eq_5 @fA.eq_6))) (Yy (Yy @fA.eq_7 (Yy @fA.eq_8 @fA.eq_9)) (Yy @fA.eq_10 (Yy @fA.eq_11 @fA.eq_12)))) (Yy (Yy (Yy @fA.eq_13 (Yy @fA.eq_14 @fA.eq_15)) (Yy @fA.eq_16 (Yy @fA.eq_18 @fA.eq_19))) (Yy (Yy @fA.eq_20 (Yy @fA.eq_21 @fA.eq_22)) (Yy @fA.eq_23 (Yy @fA.eq_24 @true_and)))))
def C3:=Zt (Yy (Yy (Yy (Yy @and_true (Yy @decide_eq_true_eq @decide_eq_false_iff_not)) (Yy @XM.{0,0} (Yy @Zu @s5.eq_1))) (Yy (Yy @s5.eq_2 (Yy @s5.eq_3 @List.map_cons.{0,0})) (Yy @List.map_nil.{0,0} (Yy @X4.{0} @Yp.{0})))) (Yy (Yy (Yy @X9.{0} (Yy @Yq.{0} @A1.cells.eq_1)) (Yy @A1.cells.eq_2 (Yy @cH.eq_1 @cH.eq_2))) (Yy (Yy @cH.eq_3 (Yy @cH.eq_4 @hp.eq_1)) (Yy @cf.eq_1 (Yy @XQ.{0} @X7.{0})))))
def C4:=Zt (Yy (Yy (Yy (Yy @XH.{0} (Yy @Yk.{0} @List.drop_zero.{0})) (Yy @YM (Yy @List.nil_append.{0} @Yn.{0}))) (Yy (Yy @X8.{0} (Yy @List.drop_nil.{0} @YA)) (Yy @wz.eq_1 (Yy @jw.eq_1 @jw.eq_2)))) (Yy (Yy (Yy @lP.eq_1 (Yy @lP.eq_2 @lP.eq_3)) (Yy @MJ (Yy @MK @E0))) (Yy (Yy @MT (Yy @KB @KA)) (Yy @mD.eq_1 (Yy @mD.eq_2 @mD.eq_3)))))
def C5:=Zt (Yy (Yy (Yy (Yy @List.isEmpty_iff.{0} (Yy @IU @IV)) (Yy @B4 (Yy @B3 @HC))) (Yy (Yy Mu.down (Yy @yz Eh.down)) (Yy @CD (Yy Ho.down @yx)))) (Yy (Yy (Yy Ef.down (Yy @vb Ak.down)) (Yy @sH (Yy FE.down @yB))) (Yy (Yy Ej.down (Yy @uY Ag.down)) (Yy @sF (Yy xz.down @uZ)))))
def C6:=Zt (Yy (Yy (Yy (Yy Ah.down (Yy @l5 FD.down)) (Yy @Ep (Yy Lf.down @qY))) (Yy (Yy He.down (Yy @xA FC.down)) (Yy @HE (Yy Mv.down @yF)))) (Yy (Yy (Yy Nh.down (Yy @Es Lh.down)) (Yy @Er (Yy Lg.down @u0))) (Yy (Yy Hm.down (Yy @HD OH.down)) (Yy @yE (Yy Em.down @va)))))
def C7:=Zt (Yy (Yy (Yy (Yy Aj.down (Yy @Cz Hk.down)) (Yy @Cy (Yy Hj.down @yy))) (Yy (Yy Eg.down (Yy @CB Hn.down)) (Yy @CE (Yy Hp.down @Am)))) (Yy (Yy (Yy @Cu (Yy Hf.down @CF)) (Yy Hq.down (Yy @Cv Hg.down))) (Yy (Yy @Cx (Yy Hi.down @Cw)) (Yy Hh.down (Yy @yA Ei.down)))))
def C8:=Zt (Yy (Yy (Yy (Yy @px.eq_1 (Yy @px.eq_2 @yD)) (Yy El.down (Yy @yC Ek.down))) (Yy (Yy @CA (Yy Hl.down @Ai)) (Yy @AA (Yy @vA @tM)))) (Yy (Yy (Yy @tL (Yy @AD @AH)) (Yy @AF (Yy @AG @EG))) (Yy (Yy @Az (Yy @xH @xG)) (Yy @HV (Yy @HY @HW)))))
def C9:=Zt (Yy (Yy (Yy (Yy @HX (Yy @AJ @AK)) (Yy @Au (Yy @EF @Av))) (Yy (Yy @EB (Yy @xF @Aw)) (Yy @EC (Yy @Ax @ED)))) (Yy (Yy (Yy @Ay (Yy @CL @CM)) (Yy @xI (Yy @xK @xJ))) (Yy (Yy @pA (Yy @pC @pB)) (Yy @rl (Yy @rp @rm)))))
def Rd:=Zt (Yy (Yy (Yy (Yy @tN @vB) (Yy @HZ @EH)) (Yy (Yy @AB @dr.eq_1) (Yy @Ks (Yy @Fb @Fc)))) (Yy (Yy (Yy @Ku @Kv) (Yy @MS (Yy @Kw @Kx))) (Yy (Yy @Gy @DZ) (Yy @Bool.and_true (Yy @Bool.true_and @Bool.not_false)))))
def CC:=Zt (Yy (Yy (Yy C0.down C1.down) (Yy C2.down (Yy C3.down C4.down))) (Yy (Yy C5.down (Yy C6.down C7.down)) (Yy C8.down (Yy C9.down Rd.down))))
def lQ(sz bt:Nat):dG:=⟨8,[(.tmp 2)],
 (.seq (.reg [⟨(XC 2),XG,.mv kN,[],(.new [])⟩])
 (.seq (.seq (.reg [⟨(XC 3),XG,.mv (.t 0),[],(.new [])⟩,
   ⟨(XC 4),XG,.eqnil Ze (.t 3),[],(.lone [])⟩])
 (.cond (.t 4)
 (.seq (.reg [⟨(XC 2),XG,.mv kN,[],(.new [])⟩])
 .ret)
 .skip))
 (.seq (.reg [⟨(XC 5),XG,.bslice sz [],[],(.new [])⟩,
   ⟨(XC 6),XG,.mv (.t 0),[],(.new [])⟩,
   ⟨(XC 7),XG,.app sz bt (.t 5) (.t 6),[],(.new [])⟩,
   ⟨(XC 2),XG,.mv (.t 7),[],(.new [])⟩])
 .ret)))⟩
def mQ(sz bt:Nat)(z:List D)(g:Y9)(rr:Y9):dG:=⟨95,[(.tmp 6)],
 (.seq (.reg [⟨(XC 6),XG,.mv kN,[],(.new [])⟩])
 (.seq (.reg [⟨(XC 10),XG,.mv (.t 0),[],(.new [])⟩,
   ⟨(XC 11),XG,.mv (.t 1),[],(.new [])⟩,
   ⟨(XC 12),XG,.slice sz (.t 10) (XC (.t 11)) XG XG,[],(.new [])⟩])
 (.seq (.reg [⟨(XC 13),XG,.mv (.t 2),[],(.new [])⟩,
   ⟨(XC 14),XG,.len (.t 13),[],(.new [])⟩,
   ⟨(XC 7),XG,.mv (.t 14),[],(.new [])⟩])
 (.seq (.seq (.reg [⟨(XC 15),XG,.mv (.t 7),[],(.new [])⟩,
   ⟨(XC 16),XG,.bin .eql (.t 15) (kI 0),[],(.new [])⟩])
 (.cond (.t 16)
 (.seq (.reg [⟨(XC 17),XG,.mv (.t 0),[],(.new [])⟩,
   ⟨(XC 6),XG,.mv (.t 17),[],(.new [])⟩])
 .ret)
 .skip))
 (.seq (.reg [⟨(XC 18),XG,.mv (.t 0),[],(.new [])⟩,
   ⟨(XC 19),XG,.len (.t 18),[],(.new [])⟩,
   ⟨(XC 8),XG,.mv (.t 19),[],(.new [])⟩])
 (.seq (.seq (.reg [⟨(XC 20),XG,.mv (.t 1),[],(.new [])⟩,
   ⟨(XC 21),XG,.mv (.t 8),[],(.new [])⟩,
   ⟨(XC 22),XG,.bin .eql (.t 20) (.t 21),[],(.new [])⟩])
 (.cond (.t 22)
 (.seq (.reg [⟨(XC 23),XG,.mv (.t 0),[],(.new [])⟩,
   ⟨(XC 24),XG,.mv (.t 2),[],(.new [])⟩,
   ⟨(XC 25),XG,.app sz bt (.t 23) (.t 24),[],(.new [])⟩,
   ⟨(XC 6),XG,.mv (.t 25),[],(.new [])⟩])
 .ret)
 .skip))
 (.seq (.seq (.reg [⟨(XC 26),XG,.mv (.t 8),[],(.new [])⟩,
   ⟨(XC 27),XG,.mv (.t 7),[],(.new [])⟩,
   ⟨(XC 28),XG,.bin .add (.t 26) (.t 27),[],(.new [])⟩,
   ⟨(XC 29),XG,.mv (.t 0),[],(.new [])⟩,
   ⟨(XC 30),XG,.cap (.t 29),[],(.new [])⟩,
   ⟨(XC 31),XG,.bin .gtr (.t 28) (.t 30),[],(.new [])⟩])
 (.cond (.t 31)
 (.seq (.reg [⟨(XC 32),XG,.mv (.t 0),[],(.new [])⟩,
   ⟨(XC 33),XG,.mv (.t 1),[],(.new [])⟩,
   ⟨(XC 34),XG,.slice sz (.t 32) XG (XC (.t 33)) XG,[],(.new [])⟩,
   ⟨(XC 35),XG,.mv (.t 8),[],(.new [])⟩,
   ⟨(XC 36),XG,.mv (.t 7),[],(.new [])⟩,
   ⟨(XC 37),XG,.bin .add (.t 35) (.t 36),[],(.new [])⟩,
   ⟨(XC 38),XG,.mv (.t 1),[],(.new [])⟩,
   ⟨(XC 39),XG,.bin .sub (.t 37) (.t 38),[],(.new [])⟩,
   ⟨(XC 40),XG,.appz sz bt z (.t 34) (.t 39),[],(.new [])⟩,
   ⟨(XC 9),XG,.mv (.t 40),[],(.new [])⟩])
 (.seq (.reg [⟨(XC 41),XG,.mv (.t 9),[],(.new [])⟩,
   ⟨(XC 42),XG,.mv (.t 1),[],(.new [])⟩,
   ⟨(XC 43),XG,.slice sz (.t 41) (XC (.t 42)) XG XG,[],(.new [])⟩,
   ⟨(XC 44),XG,.mv (.t 2),[],(.new [])⟩,
   ⟨(XC 45),XG,.copy sz (.t 43) (.t 44),[],(.lone [41])⟩])
 (.seq (.regd [⟨(XC 46),XG,.mv (.t 9),[],(.new [])⟩,
   ⟨(XC 47),XG,.mv (.t 1),[],(.new [])⟩,
   ⟨(XC 48),XG,.mv (.t 7),[],(.new [])⟩,
   ⟨(XC 49),XG,.bin .add (.t 47) (.t 48),[1,2],(.new [])⟩,
   ⟨(XC 50),XG,.slice sz (.t 46) (XC (.t 49)) XG XG,[0,1,2,3],(.new [])⟩,
   ⟨(XC 51),XG,.mv (.t 0),[],(.new [])⟩,
   ⟨(XC 52),XG,.mv (.t 1),[],(.new [])⟩,
   ⟨(XC 53),XG,.slice sz (.t 51) (XC (.t 52)) XG XG,[5,6],(.new [])⟩,
   ⟨(XC 54),XG,.copy sz (.t 50) (.t 53),[0,1,2,3,4,5,6,7],(.lone [])⟩])
 (.seq (.reg [⟨(XC 55),XG,.mv (.t 9),[],(.new [])⟩,
   ⟨(XC 6),XG,.mv (.t 55),[],(.new [])⟩])
 .ret))))
 .skip))
 (.seq (.reg [⟨(XC 56),XG,.mv (.t 0),[],(.new [])⟩,
   ⟨(XC 57),XG,.mv (.t 8),[],(.new [])⟩,
   ⟨(XC 58),XG,.mv (.t 7),[],(.new [])⟩,
   ⟨(XC 59),XG,.bin .add (.t 57) (.t 58),[],(.new [])⟩,
   ⟨(XC 60),XG,.slice sz (.t 56) XG (XC (.t 59)) XG,[],(.new [])⟩,
   ⟨(XC 0),XG,.mv (.t 60),[],(.new [])⟩])
 (.seq (.seq (.reg [⟨(XC 61),XG,.mv (.t 2),[],(.new [])⟩,
   ⟨(XC 62),XG,.mv (.t 0),[],(.new [])⟩,
   ⟨(XC 63),XG,.mv (.t 1),[],(.new [])⟩,
   ⟨(XC 64),XG,.mv (.t 7),[],(.new [])⟩,
   ⟨(XC 65),XG,.bin .add (.t 63) (.t 64),[],(.new [])⟩,
   ⟨(XC 66),XG,.slice sz (.t 62) (XC (.t 65)) XG XG,[],(.new [])⟩,
   ⟨(XC 67),XG,.call g [(.t 61),(.t 66)],[],(.new [])⟩,
   ⟨(XC 68),XG,.not (.t 67),[],(.new [])⟩])
 (.cond (.t 68)
 (.seq (.regd [⟨(XC 69),XG,.mv (.t 0),[],(.new [])⟩,
   ⟨(XC 70),XG,.mv (.t 1),[],(.new [])⟩,
   ⟨(XC 71),XG,.mv (.t 7),[],(.new [])⟩,
   ⟨(XC 72),XG,.bin .add (.t 70) (.t 71),[1,2],(.new [])⟩,
   ⟨(XC 73),XG,.slice sz (.t 69) (XC (.t 72)) XG XG,[0,1,2,3],(.new [])⟩,
   ⟨(XC 74),XG,.mv (.t 0),[],(.new [])⟩,
   ⟨(XC 75),XG,.mv (.t 1),[],(.new [])⟩,
   ⟨(XC 76),XG,.slice sz (.t 74) (XC (.t 75)) XG XG,[5,6],(.new [])⟩,
   ⟨(XC 77),XG,.copy sz (.t 73) (.t 76),[0,1,2,3,4,5,6,7],(.lone [])⟩])
 (.seq (.reg [⟨(XC 78),XG,.mv (.t 0),[],(.new [])⟩,
   ⟨(XC 79),XG,.mv (.t 1),[],(.new [])⟩,
   ⟨(XC 80),XG,.slice sz (.t 78) (XC (.t 79)) XG XG,[],(.new [])⟩,
   ⟨(XC 81),XG,.mv (.t 2),[],(.new [])⟩,
   ⟨(XC 82),XG,.copy sz (.t 80) (.t 81),[],(.lone [78])⟩])
 (.seq (.reg [⟨(XC 83),XG,.mv (.t 0),[],(.new [])⟩,
   ⟨(XC 6),XG,.mv (.t 83),[],(.new [])⟩])
 .ret)))
 .skip))
 (.seq (.reg [⟨(XC 84),XG,.mv (.t 0),[],(.new [])⟩,
   ⟨(XC 85),XG,.mv (.t 8),[],(.new [])⟩,
   ⟨(XC 86),XG,.slice sz (.t 84) (XC (.t 85)) XG XG,[],(.new [])⟩,
   ⟨(XC 87),XG,.mv (.t 2),[],(.new [])⟩,
   ⟨(XC 88),XG,.copy sz (.t 86) (.t 87),[],(.lone [84])⟩])
 (.seq (.reg [⟨(XC 89),XG,.mv (.t 0),[],(.new [])⟩,
   ⟨(XC 90),XG,.mv (.t 1),[],(.new [])⟩,
   ⟨(XC 91),XG,.slice sz (.t 89) (XC (.t 90)) XG XG,[],(.new [])⟩,
   ⟨(XC 92),XG,.mv (.t 7),[],(.new [])⟩,
   ⟨(XC 93),XG,.call rr [(.t 91),(.t 92)],[],(.lone [89])⟩])
 (.seq (.reg [⟨(XC 94),XG,.mv (.t 0),[],(.new [])⟩,
   ⟨(XC 6),XG,.mv (.t 94),[],(.new [])⟩])
 .ret))))))))))))⟩
def nf(sz bt:Nat)(z:List D):dG:=⟨33,[(.tmp 6)],
 (.seq (.reg [⟨(XC 6),XG,.mv kN,[],(.new [])⟩])
 (.seq (.reg [⟨(XC 8),XG,.mv (.t 0),[],(.new [])⟩,
   ⟨(XC 9),XG,.mv (.t 1),[],(.new [])⟩,
   ⟨(XC 10),XG,.mv (.t 2),[],(.new [])⟩,
   ⟨(XC 11),XG,.mv (.t 0),[],(.new [])⟩,
   ⟨(XC 12),XG,.len (.t 11),[],(.new [])⟩,
   ⟨(XC 13),XG,.slice sz (.t 8) (XC (.t 9)) (XC (.t 10)) (XC (.t 12)),[],(.lone [11])⟩])
 (.seq (.seq (.reg [⟨(XC 14),XG,.mv (.t 1),[],(.new [])⟩,
   ⟨(XC 15),XG,.mv (.t 2),[],(.new [])⟩,
   ⟨(XC 16),XG,.bin .eql (.t 14) (.t 15),[],(.new [])⟩])
 (.cond (.t 16)
 (.seq (.reg [⟨(XC 17),XG,.mv (.t 0),[],(.new [])⟩,
   ⟨(XC 6),XG,.mv (.t 17),[],(.new [])⟩])
 .ret)
 .skip))
 (.seq (.reg [⟨(XC 18),XG,.mv (.t 0),[],(.new [])⟩,
   ⟨(XC 19),XG,.len (.t 18),[],(.new [])⟩,
   ⟨(XC 7),XG,.mv (.t 19),[],(.new [])⟩])
 (.seq (.regd [⟨(XC 20),XG,.mv (.t 0),[],(.new [])⟩,
   ⟨(XC 21),XG,.mv (.t 1),[],(.new [])⟩,
   ⟨(XC 22),XG,.slice sz (.t 20) XG (XC (.t 21)) XG,[0,1],(.new [])⟩,
   ⟨(XC 23),XG,.mv (.t 0),[],(.new [])⟩,
   ⟨(XC 24),XG,.mv (.t 2),[],(.new [])⟩,
   ⟨(XC 25),XG,.slice sz (.t 23) (XC (.t 24)) XG XG,[3,4],(.new [])⟩,
   ⟨(XC 26),XG,.app sz bt (.t 22) (.t 25),[0,1,2,3,4,5],(.lone [])⟩,
   ⟨(XC 0),XG,.mv (.t 26),[0,1,2,3,4,5,6],(.new [])⟩])
 (.seq (.reg [⟨(XC 27),XG,.mv (.t 0),[],(.new [])⟩,
   ⟨(XC 28),XG,.mv (.t 0),[],(.new [])⟩,
   ⟨(XC 29),XG,.len (.t 28),[],(.new [])⟩,
   ⟨(XC 30),XG,.mv (.t 7),[],(.new [])⟩,
   ⟨(XC 31),XG,.slice sz (.t 27) (XC (.t 29)) (XC (.t 30)) XG,[],(.new [])⟩,
   ⟨XG,XG,.clear sz z (.t 31),[],(.lone [28,27])⟩])
 (.seq (.reg [⟨(XC 32),XG,.mv (.t 0),[],(.new [])⟩,
   ⟨(XC 6),XG,.mv (.t 32),[],(.new [])⟩])
 .ret)))))))⟩
theorem w1{n:Nat}(h:n≤4294967290):IntKind.i64.wrap ((n:Int)+1)=((n+1:Nat):Int):=cL (by omega)
theorem w2{n i:Nat}(h:n≤4294967290)(hi:i≤n):IntKind.i64.wrap (((n+1:Nat):Int)-i)=((n+1-i:Nat):Int):=by
 rw[dc (by omega) (by omega)];omega
section
variable {P:Y7} {f g rr:Y9} {sz bt:Nat} {z:List D}
theorem Dm(hf:nv P f=XC (lQ sz bt))(rows:List (List D))(hl:rows.length≤4294967296)(hs:qB rows sz):aW P f [aL rows] [] (.one (.c (.own 0 1 0 rows.length XG))) [XC (.arr 1 sz rows)]:=by
 refine pF (A:=lQ sz bt) (res:=[.c (.own 0 1 0 rows.length XG)]) hf (by simp[lQ]) ?_
 simp only[lQ,CC.down,kE,ug,YC,reduceCtorEq,YD,YB,YE]
 exact⟨fun h=>by subst h;exact LN 1 sz,hs,hl,NQ⟩
theorem A7(hf:nv P f=XC (mQ sz bt z g rr))(hov:∀(e0 e1 o0 o1 l0 l1:Nat) (c0 c1:Option Nat) (r0 r1:List (List D)),aW P g [.c (.own 0 e0 o0 l0 c0),.c (.own 1 e1 o1 l1 c1)] [XC (.arr e0 sz r0),XC (.arr e1 sz r1)] (.one (aB Ze)) [XC (.arr e0 sz r0),XC (.arr e1 sz r1)])(rows:List (List D))(x:List D)(i e e' n:Nat)(hn:rows.length=n)(hi:i≤n)(hl:n≤4294967290)(hs:qB rows sz)(hx:x.length=sz):
 aW P f [.c (.own 0 e 0 n XG),aI i,.c (.own 1 e' 0 1 XG)] [XC (.arr e sz rows),XC (.arr e' sz [x])] (.one (.c (.own 0 (e+1) 0 (n+1) XG))) [XC (.arr (e+1) sz (rows.take i++x::rows.drop i)),XC (.arr e' sz [x])]:=by
 refine aW.cap fun c hc=>?_
 refine pF (A:=mQ sz bt z g rr) (res:=[.c (.own 0 (e+1) 0 (n+1) XG)]) hf (by simp[mQ]) ?_
 have e1:=w1 hl
 have e2:=w2 hl hi
 have e3:=w1 (n:=i) (by omega)
 simp only[mQ,CC.down,kE,ug,YC,reduceCtorEq,YD,YB,YE]
 refine⟨by omega,Pb (by omega) ?_⟩
 simp only[CC.down,kE,ug,YC,reduceCtorEq,YD,YB,YE]
 refine dq (fun hin=>?_) (fun hin=>?_)
 ·have hin':i=n:=by omega
  subst hin'
  simp only[CC.down,kE,ug,YC,reduceCtorEq,YD,YB,YE]
  refine⟨by omega,?_⟩
  by_cases hcc:i+1≤c
  ·refine .inl ⟨by simpa using hcc,?_⟩
   simp only[CC.down,kE,ug,YC,reduceCtorEq,YD,YB,YE]
   refine te [0,1] ?_ (by decide) ?_ ?_
   ·simp[pw,Ey,hp,hn]
   ·simp[keeps,nr]
   ·simp[xj,KP,KO,hp]<;>omega
  ·refine .inr ⟨by simp<;>omega,by simp<;>omega,?_⟩
   simp only[CC.down,kE,ug,YC,reduceCtorEq,YD,YB,YE]
   refine te [2,1] ?_ (by decide) ?_ ?_
   ·simp[pw,Ey,hp,hn]
   ·simp[keeps,nr]
   ·simp[xj,KP,KO,hp]<;>omega
 ·simp only[e1,e2,e3,CC.down,kE,ug,YC,reduceCtorEq,YD,YB,YE]
  have m1:i+(n+1-i)=n+1:=by omega
  have m2:min 1 (n+1-i)=1:=by omega
  have m3:min 1 (n-i)=1:=by omega
  have m4:n+1-(i+1)=n-i:=by omega
  have m5:min (n-i) (n-i)=n-i:=by omega
  have m6:(rows.drop i).length=n-i:=by simp[hn]
  have m7:(rows.drop i).take (n-i)=rows.drop i:=XZ (by omega)
  have m8:(rows.take i).length=i:=by simp;omega
  have m9:∀z:List D,(rows.take i++X0 (n+1-i) z).take i=rows.take i:=fun z=>by
   rw[XR (by omega),Yr,YR]
  have m10:∀z:List D,(rows.take i++X0 (n+1-i) z).drop (i+1)=X0 (n-i) z:=fun z=>by
   rw[Ym,m8,X2 (by omega)];simp;omega
  have m11:∀z:List D,(rows.take i++[x]++X0 (n-i) z).take (i+1)=rows.take i++[x]:=fun z=>by
   rw[XR (by simp;omega),XZ (by simp;omega)]
  have m12:∀z:List D,(rows.take i++[x]++X0 (n-i) z).drop (i+1+(n-i))=[]:=fun z=>X2 (by simp;omega)
  refine dq (fun hcap=>?_) (fun hcap=>?_)
  ·simp only[e1,e2,e3,YI,CC.down,kE,ug,YC,reduceCtorEq,YD,YB,YE]
   refine⟨by omega,by omega,by omega,.inr ⟨by simp<;>omega,by simp<;>omega,?_⟩⟩
   simp only[e1,e2,e3,YI,XO,m1,m2,m4,m5,m8,m9,m10,YL,CC.down,kE,ug,YC,reduceCtorEq,YD,YB,YE]
   refine⟨by omega,by rw[XP,XO];omega,?_⟩
   simp only[e1,e2,e3,YI,XO,m1,m2,m4,m5,m6,m7,m8,m9,m10,m11,m12,YL,YR,CC.down,kE,ug,YC,reduceCtorEq,YD,YB,YE]
   refine⟨by omega,by omega,by omega,by rw[XP,XP,XO];simp;omega,?_⟩
   refine te [2,1] ?_ (by decide) ?_ ?_
   ·simp[pw,Ey,hp]
   ·simp[keeps,nr]
   ·simp[xj,KP,KO,hp]<;>omega
  ·simp only[e1,e2,e3,YI,YL,CC.down,kE,ug,YC,reduceCtorEq,YD,YB,YE]
   refine⟨by omega,by omega,?_⟩
   refine Gk [1,0] (hov e' e 0 (i+1) 1 _ XG _ [x] rows) rfl ?_ ?_ (by decide) ?_
   ·simp[A1.live,C.live,hp]
   ·simp[Pt,hp,bw.Df]
   simp only[e8,bw.ff,rn,AV.ff,A1.ff,C.ff,e1,e2,e3,YI,CC.down,kE,ug,YC,reduceCtorEq,YD,YB,YE]
   refine⟨by omega,by omega,by omega,by omega,by omega,by omega,?_,?_⟩
   ·simp;omega
   ·have m13:min (n+1-i) (n-i)=n-i:=by omega
    have m14:rows.drop (i+1+(n-i))=[]:=X2 (by omega)
    have m17:(rows.take (i+1)).length=i+1:=by simp;omega
    have m15:(rows.take (i+1)++rows.drop i).take i=rows.take i:=by
     rw[XR (by omega),Yr];congr 1;omega
    have m16:(rows.take (i+1)++rows.drop i).drop (i+1)=rows.drop i:=by
     rw[Ym,m17,X2 (by omega)];simp
    simp only[m2,m4,m13,m7,m6,m5,m14,m15,m16,X8,X9,Yq,X4,Yp,YM]
    refine te [0,1] ?_ (by decide) ?_ ?_
    ·simp[pw,Ey,hp]
    ·simp[keeps,nr]
    ·simp[xj,KP,KO,hp]<;>omega
theorem Br(hf:nv P f=XC (nf sz bt z))(rows:List (List D))(i j e n:Nat)(hn:rows.length=n)(hij:i≤j)(hj:j≤n)(hl:n≤4294967290)(hs:qB rows sz):
 aW P f [.c (.own 0 e 0 n XG),aI i,aI j] [XC (.arr e sz rows)] (.one (.c (.own 0 (e+1) 0 (n-(j-i)) XG))) [XC (.arr (e+1) sz (rows.take i++rows.drop j))]:=by
 refine aW.cap fun c hc=>?_
 refine pF (A:=nf sz bt z) (res:=[.c (.own 0 (e+1) 0 (n-(j-i)) XG)]) hf (by simp[nf]) ?_
 simp only[nf,YI,CC.down,kE,ug,YC,reduceCtorEq,YD,YB,YE]
 refine⟨by omega,?_⟩
 refine dq (fun hin=>?_) (fun hin=>?_)
 ·have hij':i=j:=by omega
  subst hij'
  simp only[CC.down,kE,ug,YC,reduceCtorEq,YD,YB,YE]
  refine te [0] ?_ (by decide) ?_ ?_
  ·simp[pw,Ey,hp]
  ·simp[keeps,nr]
  ·simp[xj,KP,KO,hp]<;>omega
 ·have m7:(rows.drop j).take (n-j)=rows.drop j:=XZ (by simp;omega)
  have m6:(rows.drop j).length=n-j:=by simp[hn]
  have m8:(rows.take i).length=i:=by simp;omega
  simp only[YI,m7,m6,CC.down,kE,ug,YC,reduceCtorEq,YD,YB,YE]
  refine⟨by omega,by omega,by omega,by omega,.inl ⟨by omega,?_⟩⟩
  simp only[YI,m7,m6,m8,XO,CC.down,kE,ug,YC,reduceCtorEq,YD,YB,YE]
  have m9:(rows.take i++rows.drop j++rows.drop (i+(n-j))).take (i+(n-j))=rows.take i++rows.drop j:=by
   rw[XR (by simp;omega),XZ (by simp;omega)]
  refine⟨by omega,by simp;omega,?_⟩
  rw[m9]
  refine te [0] ?_ (by decide) ?_ ?_
  ·simp only[pw,Ey,hp,XQ,XH,true_and,and_true]
   exact .inr ⟨_,Yl _ _ _⟩
  ·simp[keeps,nr]
  ·simp[xj,KP,KO,hp]<;>omega
end
def gw{α:Type}(xs:List α):Option (List α):=if xs.length≤4294967290 then XC xs else XG
def lL{α:Type}(xs:List α)(i:Int)(x:α):Option (List α):=if 0≤i∧i≤xs.length∧xs.length≤4294967289 then XC (xs.take i.toNat++x::xs.drop i.toNat)else XG
def oz{α:Type}(xs:List α)(i j:Int):Option (List α):=if 0≤i∧i≤j∧j≤xs.length∧xs.length≤4294967290 then XC (xs.take i.toNat++xs.drop j.toNat)else XG
section
variable {P:Y7} {f g rr:Y9} {sz bt:Nat} {z:List D} {α:Type} {enc:α→List D}
theorem CH(hs:∀y,(enc y).length=sz)(xs:List α):qB (xs.map enc) sz:=fun r hr=>by
 obtain⟨y,_,rfl⟩:=Yt.1 hr;exact hs y
theorem sa(hf:nv P f=XC (lQ sz bt))(hs:∀y,(enc y).length=sz){xs r:List α}(h:gw xs=XC r):aW P f [.c (.d (.sl (xs.map enc)))] [] (bJ [.c (.own 0 1 0 r.length XG)]) [XC (.arr 1 sz (r.map enc))]:=by
 unfold gw at h
 split at h
 ·cases h
  have:=Dm hf (xs.map enc) (by simp;omega) (CH hs xs)
  rw[XM]at this
  exact this
 ·cases h
theorem BR(hf:nv P f=XC (mQ sz bt z g rr))(hov:∀(e0 e1 o0 o1 l0 l1:Nat) (c0 c1:Option Nat) (r0 r1:List (List D)),aW P g [.c (.own 0 e0 o0 l0 c0),.c (.own 1 e1 o1 l1 c1)] [XC (.arr e0 sz r0),XC (.arr e1 sz r1)] (.one (aB Ze)) [XC (.arr e0 sz r0),XC (.arr e1 sz r1)])
 (hs:∀y,(enc y).length=sz) {xs r:List α} {i:Int} {x:α} {e0 e1:Nat} (h:lL xs i x=XC r):
 aW P f [.c (.own 0 e0 0 xs.length XG),aI i,.c (.own 1 e1 0 [x].length XG)] [XC (.arr e0 sz (xs.map enc)),XC (.arr e1 sz ([x].map enc))] (bJ [.c (.own 0 (e0+1) 0 r.length XG)]) [XC (.arr (e0+1) sz (r.map enc)),XC (.arr e1 sz ([x].map enc))]:=by
 unfold lL at h
 split at h
 ·rename_i h0
  cases h
  obtain⟨n,rfl⟩:∃n:Nat,i=n:=⟨i.toNat,by omega⟩
  have:=A7 hf hov (xs.map enc) (enc x) n e0 e1 xs.length (by simp) (by omega) (by omega) (CH hs xs) (hs x)
  have e:(xs.take n++x::xs.drop n).length=xs.length+1:=by simp;omega
  have e2:(xs.take n++x::xs.drop n).map enc=(xs.map enc).take n++enc x::(xs.map enc).drop n:=by simp
  rw[Zu,e,e2]
  exact this
 ·cases h
theorem BS(hf:nv P f=XC (nf sz bt z))(hs:∀y,(enc y).length=sz){xs r:List α}{i j:Int}{e0:Nat}(h:oz xs i j=XC r):
 aW P f [.c (.own 0 e0 0 xs.length XG),aI i,aI j] [XC (.arr e0 sz (xs.map enc))] (bJ [.c (.own 0 (e0+1) 0 r.length XG)]) [XC (.arr (e0+1) sz (r.map enc))]:=by
 unfold oz at h
 split at h
 ·rename_i h0
  cases h
  obtain⟨n,rfl⟩:∃n:Nat,i=n:=⟨i.toNat,by omega⟩
  obtain⟨m,rfl⟩:∃n:Nat,j=n:=⟨j.toNat,by omega⟩
  have:=Br hf (xs.map enc) n m e0 xs.length (by simp) (by omega) (by omega) (by omega) (CH hs xs)
  have e:(xs.take n++xs.drop m).length=xs.length-(m-n):=by simp;omega
  rw[Zu,Zu,e,Yo,List.map_take,List.map_drop]
  exact this
 ·cases h
end
end Go.Fw
namespace Go.Fw
theorem fW{α:Type}{xs:List α}{off len:Nat}{z:α}(h:off+len≤xs.length):(xm xs off len z).length=xs.length:=by
 simp only[xm,XP,X3,XO,Yc];omega
def gy(a b:ByteArray):Int:=if lt a b then-1 else if a=b then 0 else 1
def N3(a b:ByteArray):Option Int:=XC (gy a b)
theorem MN:∀x y:List UInt8,Lib.compareBytes x y=if Zq x y=Zf then-1 else if Zq y x=Zf then 1 else 0
 |[],[]=>rfl
 |[],_::_=>rfl
 |_::_,[]=>rfl
 |a::x,b::y=>by
  have ih:=MN x y
  simp only[Lib.compareBytes,Zq,Zh,decide_eq_true_eq,Zg,beq_iff_eq]
  by_cases h1:a<b
  ·rw[if_pos h1,if_pos (.inl h1)]
  ·by_cases h2:b<a
   ·rw[if_neg h1,if_pos h2,if_neg,if_pos (.inl h2)]
    rintro(h|⟨rfl,_⟩)
    ·exact h1 h
    ·exact h1 h2
   ·have hab:a=b:=UInt8.le_antisymm (UInt8.not_lt.1 h2) (UInt8.not_lt.1 h1)
    subst hab
    rw[if_neg h1,if_neg h1,ih]
    simp[h1]
theorem IM(a b:ByteArray):Zp a b=gy a b:=by
 rw[Lib.cmp_eq,MN]
 have e:∀s:ByteArray,s.data.toList=s.toList:=fun s=>(ByteArray.toList_eq s).symm
 rw[e,e]
 unfold gy
 by_cases h1:Zq a.toList b.toList=Zf
 ·rw[if_pos h1,if_pos (show lt a b from h1)]
 ·rw[if_neg h1,if_neg (show¬lt a b from h1)]
  by_cases h2:Zq b.toList a.toList=Zf
  ·rw[if_pos h2,if_neg]
   rintro rfl;exact h1 h2
  ·rw[if_neg h2,if_pos]
   exact sX h1 h2
theorem Po{P:Y7}{f:Y9}{fn:Func}(hf:P.funcs[f]? =XC fn)(hname:(fn.name== "runtime.NumGoroutine")=Ze)(hb:fn.body.isNone=Zf)(hn:Extern.findNext fn=XG)
 (he:Extern.find fn=XC Zo) {a b:ByteArray} {r:Int} (h:N3 a b=XC r):aW P f [.c (.d (.v (.string a))),.c (.d (.v (.string b)))] [] (bJ [.c (.d (.v (.int .i64 r)))]) []:=by
 cases h
 intro φ F w vs hr hA
 cases hA with
 |cons hx hA=>
  cases hA with
  |cons hy hA=>
   cases hA
   cases hx;cases hy
   refine .inr ⟨.int .i64 (gy a b),w,?_,φ,F,dh.v _ rfl,hr,ix.refl _ _ _ _,Fr.refl _ _ _⟩
   rw[run_callFunc_extern hf hname hb hn he]
   have e:(Zo #[.string a,.string b]).run P w= .ok (.int .i64 (Zp a b)) w:=rfl
   rw[←IM]
   show((Zo #[.string a,.string b]).run P w).andThen _=_
   rw[e];rfl
theorem bp{α:Type}{o:Option α}{p:α→Prop}[DecidablePred p]{r:α}(h:(o.bind fun r=>if p r then XC r else XG)=XC r):o=XC r∧p r:=by
 obtain⟨x,h1,h2⟩:=XF.1 h
 split at h2
 ·rename_i hp;cases h2;exact⟨h1,hp⟩
 ·cases h2
end Go.Fw
namespace Go.Fw
open Go.Sort Go.Proofs Go.Shelf
theorem sm{α β:Type}{f:α→β}{l:List α}:List.take l.length (Yx f l)=Yx f l:=by
 rw[←XM f,List.take_length]
def lit{α:Type}(xs:List α):List α:=xs
def bl(b:ByteArray):List UInt8:=b.data.toList
def lb(l:List UInt8):ByteArray:=⟨l.toArray⟩
theorem OX(b:ByteArray):lb (bl b)=b:=by cases b;simp[lb,bl]
def CS(x:List UInt8):List (List UInt8)→List (List UInt8)
 |[]=>[x]
 |y::r=>if Zq y x then y::CS x r else x::y::r
def Im:List (List UInt8)→List (List UInt8)
 |[]=>[]
 |x::r=>CS x (Im r)
def xv(xs:List ByteArray):List ByteArray:=(Im (xs.map bl)).map lb
theorem tk:∀x y:List UInt8,Zq x y=decide (x<y)
 |[],[]=>by simp[Zq]
 |[],b::y=>by simp[Zq]
 |a::x,[]=>by simp[Zq]
 |a::x,b::y=>by
  rw[Zq,tk x y,Bool.eq_iff_iff]
  simp only[Zh,decide_eq_true_eq,Zg,beq_iff_eq,List.cons_lt_cons_iff]
theorem ta(x:List UInt8):∀l,(CS x l).Perm (x::l)
 |[]=>Zv _
 |y::r=>by
  unfold CS;split
  ·exact((ta x r).cons y).trans (Zw x y r)
  ·exact Zv _
theorem xX:∀l,(Im l).Perm l
 |[]=>Zv _
 |x::r=>(ta x _).trans ((xX r).cons x)
theorem EM(x:List UInt8):∀{l:List (List UInt8)},l.Pairwise (·≤·)→(CS x l).Pairwise (·≤·)
 |[],_=>by simp[CS]
 |y::r,h=>by
  have h2:=Ya.1 h
  unfold CS;split
  ·rename_i hl
   rw[tk,decide_eq_true_eq]at hl
   refine Ya.2 ⟨fun z hz=>?_,EM x h2.2⟩
   rcases Yh.1 ((ta x r).mem_iff.1 hz)with e|hz
   ·subst e;exact List.le_of_lt hl
   ·exact h2.1 z hz
  ·rename_i hl
   rw[tk,decide_eq_true_eq]at hl
   refine Ya.2 ⟨fun z hz=>?_,h⟩
   rcases Yh.1 hz with e|hz
   ·subst e;exact Yu.1 hl
   ·exact Ys (Yu.1 hl) (h2.1 z hz)
theorem EN:∀l,(Im l).Pairwise (·≤·)
 |[]=>List.Pairwise.nil
 |x::r=>EM x (EN r)
theorem LG(l:List (List UInt8)):Im l=l.mergeSort fun x y=>decide (x≤y):=by
 refine Zx (le:=(·≤·)) (fun a b _ _ h1 h2=>List.le_antisymm h1 h2) (EN l) ?_ ((xX l).trans (List.mergeSort_perm l _).symm)
 refine(List.pairwise_mergeSort (le:=fun x y:List UInt8=>decide (x≤y)) (fun a b c h1 h2=>by simp only[decide_eq_true_eq]at*;exact Ys h1 h2) (fun a b=>by simp only[Zh,decide_eq_true_eq];exact List.le_total a b) l).imp fun{a b} h=>by simpa using h
theorem z7(xs:List ByteArray):xv xs=((xs.map bl).mergeSort fun x y=>decide (x≤y)).map lb:=by rw[xv,LG]
def E1(xs:List ByteArray):List ByteArray:=(Zz (xs.map bl)).map lb
def xx(xs:List ByteArray):Option (List ByteArray):=if xs.length≤4294967290 then XC (xv xs)else XG
def E2(xs:List ByteArray):Option (List ByteArray):=if xs.length≤4294967290 then XC (E1 xs)else XG
theorem xu(xs:List ByteArray):(xv xs).length=xs.length:=by simp[z7]
theorem xw{xs r:List ByteArray}(h:xx xs=XC r):r.length=xs.length:=by
 unfold xx at h
 split at h
 ·cases h;exact xu xs
 ·cases h
theorem EI{φ:gP}{F:Nat→Prop}{w:Y8}{e e':Nat}{xs ys:List ByteArray}{b o:Nat}{ds:List (List UInt8)}{n:Nat}{os:Array Obj}
 (hr:Rel φ F (hp [XC (.arr e 1 (xs.map eS))]) w) (hφ:φ 0=XC (b,o)) (hd:ds.length=xs.length) (hy:ds.map lb=ys∨∃zs,ds.map lb=ys++zs)
 (he:e<e'∨e=e'∧ys.length=xs.length):
 ∃w',w'=grow (putRow encStr (Zy w n) b o ds.toArray) os∧Rel φ F (hp [XC (.arr e' 1 (ys.map eS))]) w'∧ix φ F (hp [XC (.arr e 1 (xs.map eS))]) w φ F (hp [XC (.arr e' 1 (ys.map eS))]) w'∧Fr φ F w φ F w'∧bsize w' b=bsize w b:=by
 refine⟨_,rfl,?_⟩
 generalize hw':grow (putRow encStr (Zy w n) b o ds.toArray) os=w'
 have hB:=hr.bZ 0 _ rfl
 rcases hB with⟨h1,_⟩|⟨b0,o0,cs,T,h1,h2,h3,h4,h5⟩
 ·rw[hφ]at h1;cases h1
 rw[hφ]at h1
 simp only[Zj,Zs]at h1
 obtain⟨rfl,rfl⟩:=h1
 have hblt:b<w.heap.size:=hr.lt hφ
 have hrest:∀c,c<w.heap.size→c≠b→w'.heap[c]? =w.heap[c]? :=by
  intro c hc hcb
  rw[←hw']
  simp only[grow,putRow,mapBlock,Zy]
  rw[YX (by simpa using hc),Y4,if_neg (Zr hcb)]
 have hsize:w.heap.size≤w'.heap.size:=by rw[←hw'];simp[grow,putRow,mapBlock,Zy]
 have hblk:w'.heap[b]? =XC (.cells (putCells encStr o ds.toArray cs) T (0,0)):=by
  rw[←hw']
  simp only[grow,putRow,mapBlock,Zy]
  rw[YX (by simpa using hblt),Y4,if_pos rfl,h2]
  rfl
 have hsz:(putCells encStr o ds.toArray cs).size=cs.size:=by simp[putCells]
 have hlen:ys.length≤xs.length:=by
  rcases hy with hy|⟨zs,hy⟩
  ·have:=congrArg Yv hy;simp at this;omega
  ·have:=congrArg Yv hy;simp at this;omega
 have hget:∀i y,ys[i]? =XC y→(putCells encStr o ds.toArray cs)[o+i]? =XC (.string y):=by
  intro i y hi
  have hil:=(XJ.1 hi).1
  simp only[XM]at h3
  have hdi:(ds.map lb)[i]? =XC y:=by
   rcases hy with hy|⟨zs,hy⟩
   ·rw[hy];exact hi
   ·rw[hy,Yg hil];exact hi
  rw[X1,XD]at hdi
  obtain⟨l,hl,rfl⟩:=hdi
  have hcs:cs[o+i]? =XC cs[o+i]:=YS (by omega)
  simp only[putCells,Array.getElem?_mapIdx,hcs,XI]
  rw[if_pos (by simp only[X6];omega)]
  have e:o+i-o=i:=by omega
  rw[e]
  have:ds.toArray[i]! =l:=by
   rw[getElem!_pos _ i (by simp only[X6];omega)]
   have:=(XJ.1 hl)
   simpa using this.2
  rw[this];rfl
 have hbs:bsize w' b=bsize w b:=by simp only[bsize,hblk,h2,hsz]
 have upd0:ed φ 0 (φ 0)=φ:=by
  funext j
  by_cases hj:j=0
  ·subst hj;simp
  ·rw[cn _ _ hj]
 have updG:ed (hp [XC (.arr e 1 (xs.map eS))]) 0 (XC (.arr e' 1 (ys.map eS)))=hp [XC (.arr e' 1 (ys.map eS))]:=by
  funext j
  cases j with
  |zero=>simp[ed,hp]
  |succ j=>simp[ed,hp]
 have:=hr.update 0 (φ 0) (.arr e' 1 (ys.map eS)) w' hsize (by rw[←hw'];exact⟨rfl,rfl⟩)
  (fun c hc hn=>hrest c hc fun e=>hn o (by rw[hφ,e])) (fun c oc hc=> .inl ⟨oc,hc⟩)
  (by
    rw[upd0]
    refine⟨by omega,fun hee=>⟨rfl,?_,rfl,fun c oc hc=>?_⟩⟩
    ·simp only[XM];omega
    ·rw[hφ]at hc;cases hc;exact hbs)
  (fun gl=>by
    refine .inr ⟨b,o,_,T,by rw[upd0];exact hφ,hblk,?_,?_,?_⟩
    ·rw[hsz];simp only[XM]at h3⊢;omega
    ·intro row hrow
     obtain⟨y,_,rfl⟩:=Yt.1 hrow;rfl
    ·intro i row hi j d hj
     rw[X1,XD]at hi
     obtain⟨y,hy',rfl⟩:=hi
     cases j with
     |succ j=>simp[eS]at hj
     |zero=>
      simp only[eS,XQ,Zj]at hj
      subst hj
      exact⟨.string y,by rw[YP,YF];exact hget i y hy',.v _ rfl⟩)
 rw[upd0,updG]at this
 exact⟨this.1,this.2.1,this.2.2,hbs⟩
theorem xY{φ:gP}{F:Nat→Prop}{w:Y8}{e:Nat}{xs:List ByteArray}{b o:Nat}(hr:Rel φ F (hp [XC (.arr e 1 (xs.map eS))]) w)(hφ:φ 0=XC (b,o)):Holds encStr w b o (xs.map bl).toArray:=by
 intro j hj
 simp only[X6,XM]at hj
 have hB:=hr.bZ 0 _ rfl
 rcases hB with⟨h1,_⟩|⟨b0,o0,cs,T,h1,h2,h3,h4,h5⟩
 ·rw[hφ]at h1;cases h1
 rw[hφ]at h1
 simp only[Zj,Zs]at h1
 obtain⟨rfl,rfl⟩:=h1
 obtain⟨u,hu,hd⟩:=h5 j (eS xs[j]) (by rw[X1,XN hj];rfl) 0 _ rfl
 rw[YP,YF]at hu
 have hv:u= .string xs[j]:=by cases hd;rfl
 subst hv
 refine⟨?_,by simp[World.frozen?,h2]⟩
 rw[cell?_of_heap h2,hu]
 have:(xs.map bl).toArray[j]! =bl xs[j]:=by
  rw[getElem!_pos _ j (by simpa using hj)];simp
 rw[this]
 show XC (Value.string xs[j])=XC (Value.string (lb (bl xs[j])))
 rw[OX]
theorem Od{P:Y7}{f:Y9}{ρ:Ren}(L:Lays.n190 P ρ)(hf:ρ.f 190=f)(hok:AO P f=Zf){xs r:List ByteArray}{e0:Nat}(h:xx xs=XC r):
 aW P f [.c (.own 0 e0 0 xs.length XG)] [XC (.arr e0 1 (xs.map eS))] (bJ []) [XC (.arr e0 1 (r.map eS))]:=by
 unfold xx at h
 split at h
 ·rename_i hl
  cases h
  intro φ F w vs hr hA
  cases hA with
  |cons hv hA=>
   cases hA
   obtain⟨e,sz,rows,hG,_,A,l,k,rfl,hk⟩:=hv
   cases hG
   obtain⟨rfl,hlk,_,_,hor⟩:=hk rfl
   refine .inl ⟨hok,?_⟩
   cases xs with
   |nil=>
    have:=Any.slices_Sort_string_none L A k w
    rw[hf]at this
    refine this.mono ?_
    rintro e' w' ⟨rfl,rfl⟩
    have e0':xv []=[]:=rfl
    rw[e0']
    exact⟨_,rfl,φ,F,⟨[],rfl,.nil⟩,hr,ix.refl _ _ _ _,Fr.refl _ _ _⟩
   |cons x xs=>
    rcases hor with h0|⟨b,o,n,hφ,rfl,hn,hle⟩
    ·simp only[X4]at hlk;omega
    simp only[YG,YF]
    have:=Any.slices_Sort_string L b o k (((x::xs).map bl)) w (xY hr hφ) (hr.lt hφ) (by simp only[XM];omega)
    rw[hf,XM]at this
    refine this.mono ?_
    rintro e' w' ⟨rfl,n,os,hw⟩
    obtain⟨w2,q1,q2,q3,q4,_⟩:=EI (n:=n) (os:=os) (e':=e0) (ys:=xv (x::xs)) hr hφ (ds:=((x::xs).map bl).mergeSort fun x y=>decide (x≤y)) (by simp) (.inl (z7 _).symm) (.inr ⟨rfl,xu _⟩)
    rw[←q1]at hw
    subst hw
    exact⟨_,rfl,φ,F,⟨[],rfl,.nil⟩,q2,q3,q4⟩
 ·cases h
theorem Oe{P:Y7}{f:Y9}{ρ:Ren}(L:Lays.n194 P ρ)(hf:ρ.f 194=f)(hok:AO P f=Zf){xs r:List ByteArray}{e0:Nat}(h:E2 xs=XC r):
 aW P f [.c (.own 0 e0 0 xs.length XG)] [XC (.arr e0 1 (xs.map eS))] (bJ [.c (.own 0 (e0+1) 0 r.length XG)]) [XC (.arr (e0+1) 1 (r.map eS))]:=by
 unfold E2 at h
 split at h
 ·rename_i hl
  cases h
  intro φ F w vs hr hA
  cases hA with
  |cons hv hA=>
   cases hA
   obtain⟨e,sz,rows,hG,_,A,l,k,rfl,hk⟩:=hv
   cases hG
   obtain⟨rfl,hlk,_,_,hor⟩:=hk rfl
   refine .inl ⟨hok,?_⟩
   cases xs with
   |nil=>
    have:=Any.slices_Compact_string_empty L A k w
    rw[hf]at this
    refine this.mono ?_
    rintro e' w' ⟨rfl,rfl⟩
    have hB:=hr.bZ 0 _ rfl
    have upd0:ed φ 0 (φ 0)=φ:=by
     funext j
     by_cases hj:j=0
     ·subst hj;simp
     ·rw[cn _ _ hj]
    have updG:ed (hp [XC (.arr e0 1 (([]:List ByteArray).map eS))]) 0 (XC (.arr (e0+1) 1 []))=hp [XC (.arr (e0+1) 1 [])]:=by
     funext j
     cases j with
     |zero=>simp[ed,hp]
     |succ j=>simp[ed,hp]
    have:=hr.update 0 (φ 0) (.arr (e0+1) 1 []) w' (YA _) (Io.refl _) (fun _ _ _=>rfl) (fun c oc hc=> .inl ⟨oc,hc⟩)
     (by rw[upd0];exact⟨by omega,fun hee=>by omega⟩)
     (fun gl=>by
       rcases hB with⟨h1,_⟩|⟨b,o,cs,T,h1,h2,h3,_,_⟩
       ·exact .inl ⟨by rw[upd0];exact h1,rfl⟩
       ·exact .inr ⟨b,o,cs,T,by rw[upd0];exact h1,h2,by simpa using h3,(fun row hrow=>by cases hrow),fun i row hi=>by simp at hi⟩)
    rw[upd0,updG]at this
    refine⟨_,rfl,φ,F,?_,this.1,this.2.1,this.2.2⟩
    exact⟨e0+1,1,[],rfl,YA _,A,0,k,rfl,fun _=>⟨rfl,YN _,(fun c hc=>by cases hc),fun _=>YA _,hor⟩⟩
   |cons x xs=>
    rcases hor with h0|⟨b,o,n,hφ,rfl,hn,hle⟩
    ·simp only[X4]at hlk;omega
    simp only[YG,YF]at hle⊢
    have:=Any.slices_Compact_string L b o k ((x::xs).map bl) w (xY hr hφ) (by simp only[XM];omega) (by simpa using hlk)
    rw[hf,XM]at this
    refine this.mono ?_
    rintro e' w' ⟨rfl,q,hw⟩
    have hcl:=Lib.compact_length_le ((x::xs).map bl)
    rw[XM]at hcl
    obtain⟨w2,q1,q2,q3,q4,q5⟩:=EI (n:=q) (os:= #[]) (e':=e0+1) (ys:=E1 (x::xs)) hr hφ
     (ds:=Zz ((x::xs).map bl)++X0 ((x::xs).length-(Zz ((x::xs).map bl)).length) []) (by simp only[XP,XO];omega)
     (.inr ⟨_,by rw[Yo];rfl⟩) (.inl (by omega))
    rw[grow_empty]at q1
    rw[←q1]at hw
    subst hw
    have hcl2:(E1 (x::xs)).length=(Zz ((x::xs).map bl)).length:=by simp[E1]
    refine⟨_,rfl,φ,F,?_,q2,q3,q4⟩
    refine⟨e0+1,1,_,rfl,YA _,_,_,k,rfl,fun _=>⟨hcl2.symm,by omega,(fun c hc=>by cases hc),fun _=>by simp,.inr ⟨b,o,n,hφ,by simp,by rw[q5];exact hn,by omega⟩⟩⟩
 ·cases h
end Go.Fw
namespace Go.Fw
structure iW(φ:gP)(F:Nat→Prop)(w:Y8)(m:Nat)(u:Value)(sz:Nat)(rows:List (List D))(x:Option (Nat×Nat)):Prop where
 val:∃A k,u= .slice A rows.length k∧rows.length≤k∧(k=0∨∃b o n,x=XC (b,o)∧A=XC ⟨b,o,XG⟩∧bsize w b=XC n∧o+k*sz≤n)
 bZ:(x=XG∧rows=[])∨∃b o cs T,x=XC (b,o)∧w.heap[b]? =XC (.cells cs T (0,0))∧o+rows.length*sz≤cs.size∧(∀row∈rows,row.length=sz)∧
    ∀(i:Nat) row,rows[i]? =XC row→∀(j:Nat) d,row[j]? =XC d→∃u,cs[o+i*sz+j]? =XC u∧dh w F d u
 out:∀b o,x=XC (b,o)→m≤b∧b<w.heap.size∧¬F b∧∀id o',φ id≠XC (b,o')
abbrev AE:=Value×Nat×List (List D)
structure Al(φ:gP)(F:Nat→Prop)(w:Y8)(m:Nat)(l:List (Option AE)):Prop where
 ex:∃xs:Nat→Option (Nat×Nat),(∀i e,l[i]? =XC (XC e)→iW φ F w m e.1 e.2.1 e.2.2 (xs i))∧
  ∀i j b o o' e e',l[i]? =XC (XC e)→l[j]? =XC (XC e')→xs i=XC (b,o)→xs j=XC (b,o')→i=j
theorem Al.nil(φ F w m):Al φ F w m []:=⟨⟨fun _=>XG,fun i e h=>by simp at h,fun i j b o o' e e' h=>by simp at h⟩⟩
theorem iW.keep{φ F w m u sz rows x φ' F' w'}(h:iW φ F w m u sz rows x)(hf:Fr φ F w φ' F' w')(hs:∀b,F b→F' b∧w'.heap[b]? =w.heap[b]?):iW φ' F' w' m u sz rows x:=by
 have same:∀b o,x=XC (b,o)→w'.heap[b]? =w.heap[b]? :=fun b o hx=>hf.rest b (h.out b o hx).2.1 (h.out b o hx).2.2.2
 refine⟨?_,?_,fun b o hx=>?_⟩
 ·obtain⟨A,k,h1,h2,h3⟩:=h.val
  refine⟨A,k,h1,h2,h3.imp id ?_⟩
  rintro⟨b,o,n,hx,hA,hn,hle⟩
  exact⟨b,o,n,hx,hA,(oJ (same b o hx)).trans hn,hle⟩
 ·rcases h.bZ with h1|⟨b,o,cs,T,h1,h2,h3,h4,h5⟩
  ·exact .inl h1
  ·refine .inr ⟨b,o,cs,T,h1,(same b o h1).trans h2,h3,h4,fun i row hi j d hj=>?_⟩
   obtain⟨u,hu,hd⟩:=h5 i row hi j d hj
   exact⟨u,hu,hd.mono hs⟩
 ·obtain⟨h1,h2,h3,h4⟩:=h.out b o hx
  refine⟨h1,YK h2 hf.size,fun hF=>?_,fun id o' hi=>?_⟩
  ·rcases hf.fY b hF with h|⟨id,o',h⟩|h
   ·exact h3 h
   ·exact h4 _ _ h
   ·omega
  ·rcases hf.own id b o' hi with⟨i0,o0,h⟩|h
   ·exact h4 _ _ h
   ·omega
theorem O1{φ F G w m l id e sz rows u}(hr:Rel φ F G w)(hG:G id=XC (.arr e sz rows))(hc:dA φ F G w (.own id e 0 rows.length XG) u)(hal:Al φ F w m l)(hm:∀b o,φ id=XC (b,o)→m≤b):
 Rel (ed φ id XG) F (ed G id (XC (.arr (e+1) sz []))) w∧ix φ F G w (ed φ id XG) F (ed G id (XC (.arr (e+1) sz []))) w∧
  Fr φ F w (ed φ id XG) F w∧Al (ed φ id XG) F w m (l++[XC (u,sz,rows)]):=by
 have gl:ix φ F G w (ed φ id XG) F (ed G id (XC (.arr (e+1) sz []))) w:=by
  refine⟨fun b hF=>⟨hF,rfl⟩,fun j=>?_⟩
  by_cases hj:j=id
  ·subst hj;rw[bn,hG];exact⟨by omega,fun he=>by omega⟩
  ·rw[cn _ _ hj]
   exact gX.same (cn _ _ hj) fun b o hφ=>rfl
 have hdn:∀j b o,ed φ id XG j=XC (b,o)→j≠id∧φ j=XC (b,o):=by
  intro j b o hj
  by_cases hjj:j=id
  ·subst hjj;rw[bn]at hj;cases hj
  ·rw[cn _ _ hjj]at hj;exact⟨hjj,hj⟩
 have fr:Fr φ F w (ed φ id XG) F w:=⟨YA _,fun _ _ _=>rfl,fun j b o hj=> .inl ⟨j,o,(hdn j b o hj).2⟩,fun b hF=> .inl hF,Io.refl _⟩
 refine⟨⟨fun j bl hj=>?_,fun j y hy=>?_,fun i j b o b' o' hi hj hbb=>?_,fun b hF=>⟨(hr.fY b hF).1,fun j b' o hj=>(hr.fY b hF).2 j b' o (hdn j b' o hj).2⟩⟩,gl,fr,?_⟩
 ·by_cases hj':j=id
  ·subst hj';rw[bn]at hj;cases hj;exact .inl ⟨bn _ _ _,rfl⟩
  ·rw[cn _ _ hj']at hj
   exact kj.mono gl (cn _ _ hj') (fun _ _ _=>rfl) (hr.bZ j bl hj)
 ·obtain⟨b,o⟩:=y
  obtain⟨h1,h2⟩:=hdn j b o hy
  rw[cn _ _ h1];exact hr.rT j _ h2
 ·exact hr.inj i j b o b' o' (hdn i b o hi).2 (hdn j b' o' hj).2 hbb
 ·obtain⟨xs,h1,h2⟩:=hal.ex
  obtain⟨e',sz',rows',hg,_,A,k,c,rfl,hk⟩:=hc
  rw[hG]at hg;cases hg
  obtain⟨rfl,hlk,_,_,hor⟩:=hk rfl
  have hnew:iW (ed φ id XG) F w m (.slice A rows.length c) sz rows (φ id):=by
   refine⟨⟨A,c,rfl,hlk,hor.imp (fun h=>h) ?_⟩,hr.bZ id _ hG,fun b o hx=>⟨hm b o hx,hr.lt hx,fun hF=>(hr.fY b hF).2 id b o hx rfl,fun j o' hj=>?_⟩⟩
   ·rintro⟨b,o,n,hx,hA,hn,hle⟩
    rw[YG,YF]at hA hle
    exact⟨b,o,n,hx,hA,hn,hle⟩
   ·obtain⟨h3,h4⟩:=hdn j b o' hj
    exact h3 (hr.inj j id b o' b o h4 hx rfl)
  have hget:∀i x,(l++[XC ((Value.slice A rows.length c,sz,rows):AE)])[i]? =XC (XC x)→(i=l.length∧x=(.slice A rows.length c,sz,rows))∨(i≠l.length∧l[i]? =XC (XC x)):=by
   intro i x hi
   rw[XW]at hi
   split at hi
   ·exact .inr ⟨by omega,hi⟩
   ·rename_i hlt
    have:i-l.length=0:=by
     by_cases h0:i-l.length=0
     ·exact h0
     ·rw[XU (by simp;omega)]at hi;cases hi
    rw[this]at hi
    simp only[XQ,Zj]at hi
    exact .inl ⟨by omega,hi.symm⟩
  refine⟨⟨fun i=>if i=l.length then φ id else xs i,fun i x hi=>?_,fun i j b o o' x y hi hj hxi hxj=>?_⟩⟩
  ·rcases hget i x hi with⟨rfl,rfl⟩|⟨hne,hi⟩
   ·simp only[if_true];exact hnew
   ·simp only[if_neg hne];exact(h1 i x hi).keep fr fun b hF=>⟨hF,rfl⟩
  ·rcases hget i x hi with⟨rfl,rfl⟩|⟨hne,hi⟩
   ·rcases hget j y hj with⟨rfl,rfl⟩|⟨hne',hj⟩
    ·rfl
    ·simp only[if_true]at hxi
     simp only[if_neg hne']at hxj
     exact(((h1 j y hj).out b o' hxj).2.2.2 id o hxi).elim
   ·simp only[if_neg hne]at hxi
    rcases hget j y hj with⟨rfl,rfl⟩|⟨hne',hj⟩
    ·simp only[if_true]at hxj
     exact(((h1 i x hi).out b o hxi).2.2.2 id o' hxj).elim
    ·simp only[if_neg hne']at hxj
     exact h2 i j b o o' x y hi hj hxi hxj
end Go.Fw
namespace Go.Fw
abbrev Ob:=List (Value×Nat×Nat)
theorem H4{m φ F G w φ' F' G' w' id ep off len cap v}(h:gY m φ F G w φ' F' G' w')(hm:id<m)(hc:dA φ F G w (.own id ep off len cap) v):dA φ' F' G' w' (.own id ep off len cap) v:=by
 have gl:ix φ F (fun i=>if i=id then G i else XG) w φ' F' (fun i=>if i=id then G' i else XG) w':=by
  refine⟨h.fY,fun i=>?_⟩
  by_cases hi:i=id
  ·subst hi;simp only[if_true];exact h.bZ i hm
  ·simp only[if_neg hi];trivial
 have h1:dA φ F (fun i=>if i=id then G i else XG) w (.own id ep off len cap) v:=by
  obtain⟨e,sz,rows,hg,r⟩:=hc
  exact⟨e,sz,rows,by simp only[if_true];exact hg,r⟩
 obtain⟨e,sz,rows,hg,r⟩:=dA.mono gl h1
 exact⟨e,sz,rows,by simpa only[if_true]using hg,r⟩
abbrev RB:=XT→St→List (Option AE)→Ob→Prop
section
variable {P:Y7} {n:Nat} {w0:Y8} {F0:Nat→Prop} {R R':RB} {s:St} {l:List (Option AE)} {K:Ob} {a b:AC}
end
end Go.Fw
namespace Go.Fw
section
variable {P:Y7} {n m:Nat}
theorem xq{ops:Array Za}{mask:Nat→Nat}{Q:Zc→Act→Y8→Prop}{rest0:List Nat}:∀(l:List Za) (k:Nat) (steps:List cq) (s:St) (K:St→Prop),
 (∀j,j<l.length→l[j]? =ops[k+j]?)→k+l.length≤ops.size→dL P n ops mask k l=XC steps→gF P steps s K→
 ∀{φ F a w},dm n φ F s a w→(∀a' w',qC n m φ F s w K a' w'→wpOps P ops Q rest0 a' w')→wpOps P ops Q (X5 k l.length++rest0) a w
 |[],k,steps,s,K,hl,hk,hc,hv,φ,F,a,w,h,hQ=>by
  cases hc
  exact hQ a w ⟨s,φ,F,hv,h,Fr.refl _ _ _,gY.refl _ _ _ _ _⟩
 |o::l,k,steps,s,K,hl,hk,hc,hv,φ,F,a,w,h,hQ=>by
  simp only[dL,XF,XD]at hc
  obtain⟨st,hst,steps',hsteps,rfl⟩:=hc
  obtain⟨hdn,hop,hdst,_,_,hguard⟩:=gk hst
  have ho:ops[k]? =XC o:=by have:=hl 0 (by simp);simpa using this.symm
  simp only[X4,List.range'_succ,Yn]
  have rest:∀{s':St} {φ' F' a' w'},gF P steps' s' K→dm n φ' F' s' a' w'→Fr φ F w φ' F' w'→gY m φ F (hp s.heap) w φ' F' (hp s'.heap) w'→
   wpOps P ops Q (X5 (k+1) l.length++rest0) a' w':=by
   intro s' φ' F' a' w' hv' h' hf hs
   refine xq l (k+1) steps' s' K (fun j hj=>?_) (by simp at hk;omega) hsteps hv' h' fun a'' w'' hp=>hQ _ _ ?_
   ·have:=hl (j+1) (by simp;omega);simp only[X7]at this;rw[this];congr 1;omega
   ·obtain⟨s2,φ2,F2,h1,h2,h3,h4⟩:=hp
    exact⟨s2,φ2,F2,h1,h2,hf.trans h3,hs.trans h4⟩
  have go:∀(sl:List (Nat×AV)),dm n φ F ⟨sl,s.heap⟩ a w→AN P st.op ⟨sl,s.heap⟩ (fun out=>gF P steps' (St.apply ⟨sl,s.heap⟩ st.dst out) K)→o.wp P a w (wpOps P ops Q (X5 (k+1) l.length++rest0)) Q:=by
   intro sl h hrun
   refine Oper.wp_mono ?_ (xM h hop hrun Q)
   rintro a' w' ⟨v,rfl,⟨⟨out,φ',F',hK,hav,hr,hs,hf⟩⟩⟩
   rw[hdst]at hK
   exact rest hK (h.put hdn hav hr hs) hf hs.m
  have skip:∀(sl:List (Nat×AV)),dm n φ F ⟨sl,s.heap⟩ a w→gF P steps' (St.apply ⟨sl,s.heap⟩ st.dst dr) K→wpOps P ops Q (X5 (k+1) l.length++rest0) (a.put o.dst undef) w:=by
   intro sl h hsk
   rw[hdst]at hsk
   refine rest hsk (h.put hdn (out:=dr) (fun av hav=>?_) h.rel (ix.refl _ _ _ _)) (Fr.refl _ _ _) (gY.refl _ _ _ _ _)
   cases hav;exact⟨[],rfl,.nil⟩
  rw[wpOps_cons]
  unfold wpOp
  rw[ho]
  simp only
  simp only[gF]at hv
  cases hg:o.guard with
  |none=>
   rw[hg]at hguard
   rw[hguard]at hv
   simp only at hv
   simp only[Zm,hg,if_true]
   exact .inl (go s.aO h hv)
  |some x=>
   obtain⟨g,want⟩:=x
   rw[hg]at hguard
   obtain⟨d,hd,hdn',hguard⟩:=hguard
   rw[hguard]at hv
   simp only at hv
   have hy:=pK (a:=a) hd (by rw[h.size];exact hdn')
   split at hv
   ·rename_i t ht
    have hval:=h.slot _ _ ht
    generalize a.tmps.getD d undef=u at hval hy
    cases hval
    simp only at hy
    simp only[Zm,hg,hy]
    by_cases htw:t=want
    ·subst htw;simp only[beq_self_eq_true,if_true];exact .inl (go _ (h.fU ht) (hv.1 rfl))
    ·have:(XC t==XC want)=Ze:=by simpa using htw
     simp only[this,Zd,if_false]
     have htn:t= !want:=by cases t<;>cases want<;>simp_all
     exact skip _ (h.fU (by rw[←htn];exact ht)) (hv.2 htn)
   ·rename_i ht
    obtain⟨vs,hval,hvs⟩:=h.slot _ _ ht
    cases hvs
    rw[hval]at hy
    simp only at hy
    simp only[Zm,hg,hy]
    have:((XG:Option Bool)==XC want)=Ze:=rfl
    simp only[this,Zd,if_false]
    exact skip s.aO h hv
   ·exact hv.elim
theorem ss(ops:Array Za)(mask:Nat→Nat):∀(i:Nat) (l:List Za) (k:Nat) (steps:List cq),dL P n ops mask k l=XC steps→i≤l.length→
 dL P n ops mask k (l.take i)=XC (steps.take i)∧dL P n ops mask (k+i) (l.drop i)=XC (steps.drop i)
 |0,l,k,steps,h,_=>⟨rfl,by simpa using h⟩
 |i+1,[],k,steps,h,hi=>by simp at hi
 |i+1,o::l,k,steps,h,hi=>by
  simp only[dL,XF,XD]at h
  obtain⟨st,hst,steps',hs,rfl⟩:=h
  obtain⟨h1,h2⟩:=ss ops mask i l (k+1) steps' hs (by simpa using hi)
  refine⟨?_,?_⟩
  ·simp only[X9,dL,hst,h1];rfl
  ·simp only[Yk]
   rw[show k+(i+1)=k+1+i by omega];exact h2
theorem oT(ops:Array Za)(mask:Nat→Nat):∀(l:List Za) (k:Nat) (steps:List cq),dL P n ops mask k l=XC steps→steps.length=l.length
 |[],k,steps,h=>by cases h;rfl
 |o::l,k,steps,h=>by
  simp only[dL,XF,XD]at h
  obtain⟨st,hst,steps',hs,rfl⟩:=h
  simp[oT ops mask l (k+1) steps' hs]
end
end Go.Fw
namespace Go.Fw
theorem bX.set{α β:Type}{R:α→β→Prop}{l:List α}{m:List β}(h:bX R l m){j:Nat}{a:α}{b:β}(hb:m[j]? =XC b)(hr:R a b):bX R (l.set j a) m:=by
 induction h generalizing j with
 |nil=>simp at hb
 |cons x t ih=>
  cases j with
  |zero=>simp only[XQ,Zj]at hb;subst hb;exact .cons hr t
  |succ j=>simp only[X7]at hb;exact .cons x (ih hb)
theorem lU{α:Type}(f:Nat→α)(i:Nat):ed f i (f i)=f:=by
 funext j;by_cases h:j=i
 ·subst h;simp
 ·rw[cn _ _ h]
theorem ON{φ F G w}(h:Rel φ F G w){p:Nat}{cells cells':List C}(hlen:cells'.length=cells.length)(hG:G p=XC (.box cells))(hc:∀vs,eD φ F G w cells vs→eD φ F G w cells' vs):
 Rel φ F (ed G p (XC (.box cells'))) w∧ix φ F G w φ F (ed G p (XC (.box cells'))) w:=by
 have key:=h.update p (φ p) (.box cells') w (YA _) (Io.refl _) (fun _ _ _=>rfl) (fun b o hx=> .inl ⟨o,hx⟩) (by rw[hG];exact⟨bn _ _ _,hlen,fun b o _=>nz.refl _ _ _ _⟩) (fun gl=>by
  obtain⟨b,o,cs,T,h1,h2,h4,h3⟩:=h.bZ p _ hG
  rw[lU]at gl⊢
  exact⟨b,o,cs,T,h1,h2,by rw[hlen];exact h4,by rw[hlen];exact(hc _ h3).mono gl⟩)
 rw[lU]at key
 exact⟨key.1,key.2.1⟩
theorem OO{φ F G w}(h:Rel φ F G w){o e so:Nat}{R R':List (List D)}(hG:G o=XC (.arr e so R))(hl:R'.length=R.length)
 (hc:∀(i:Nat) r r',R[i]? =XC r→R'[i]? =XC r'→r'.length=r.length∧∀(j:Nat) d d',r[j]? =XC d→r'[j]? =XC d'→∀u,dh w F d u→dh w F d' u):
 Rel φ F (ed G o (XC (.arr e so R'))) w∧ix φ F G w φ F (ed G o (XC (.arr e so R'))) w:=by
 have key:=h.update o (φ o) (.arr e so R') w (YA _) (Io.refl _) (fun _ _ _=>rfl) (fun b o hx=> .inl ⟨o,hx⟩) (by rw[hG];exact⟨YA _,fun _=>⟨rfl,by omega,bn _ _ _,fun _ _ _=>rfl⟩⟩) (fun gl=>by
  rw[lU]at gl⊢
  rcases h.bZ o _ hG with⟨h1,h2⟩|⟨b,o',cs,T,h1,h2,h3,h4,h5⟩
  ·subst h2;exact .inl ⟨h1,Yi.1 hl⟩
  ·have hrow:∀(i:Nat) r',R'[i]? =XC r'→∃r,R[i]? =XC r∧r'.length=r.length:=fun i r' hi=>by
    have hlt:i<R.length:=by rw[←hl];exact(XJ.1 hi).1
    exact⟨R[i],XN hlt,(hc i _ _ (XN hlt) hi).1⟩
   refine .inr ⟨b,o',cs,T,h1,h2,by rw[hl];exact h3,fun row hr=>?_,fun i r' hi j d' hj=>?_⟩
   ·obtain⟨i,hi,rfl⟩:=List.mem_iff_getElem.1 hr
    obtain⟨r,g1,g2⟩:=hrow i _ (XN hi)
    rw[g2];exact h4 r (XV g1)
   ·obtain⟨r,g1,g2⟩:=hrow i r' hi
    have hlt:j<r.length:=by rw[←g2];exact(XJ.1 hj).1
    obtain⟨u,hu,hd⟩:=h5 i r g1 j r[j] (XN hlt)
    exact⟨u,hu,(hc i r r' g1 hi).2 j _ d' (XN hlt) hj u hd⟩)
 rw[lU]at key
 exact⟨key.1,key.2.1⟩
section
variable {n:Nat} {w0:Y8} {F0:Nat→Prop} {s:St} {l:List (Option AE)} {K:Ob}
theorem iU(sl:List (Nat×AV))(t:Nat)(v:AV)(t':Nat):lk ((t,v)::sl) t'=if t'=t then XC v else lk sl t':=by
 simp only[lk]
 by_cases h:t'=t
 ·subst h;simp
 ·have h':¬t=t':=fun e=>h e.symm
  simp[h,h']
end
end Go.Fw
namespace Go.Fw
def xQ(n m:Nat)(Rx:Nat→St→Prop)(Rr:St→Prop):XT→St→Prop
 | .normal,_=>False
 | .exit i,s=>∃s'',View n m s s''∧Rx i s''
 | .ret,s=>∃s'',View n m s s''∧Rr s''
def pQ(Rn:St→Prop)(Rx:Nat→St→Prop)(Rr:St→Prop):XT→St→Prop
 | .normal,s=>Rn s
 | .exit i,s=>Rx i s
 | .ret,s=>Rr s
section
variable {P:Y7} {n m:Nat} {w0:Y8} {F0:Nat→Prop} {s:St} {l:List (Option AE)} {K:Ob} {a:AC} {Rn Rr:St→Prop} {Rx:Nat→St→Prop}
theorem P7{i:Nat}{s':St}{sl:List (Nat×AV)}{H':List (Option bw)}(σ:Src)(hS:Sh m s'.heap σ H')(hs:mB s'.heap σ H' s'.aO sl)(hR:Rx i ⟨sl,H'⟩):xQ n m Rx Rr (.exit i) s':=by
 exact⟨_,View.sh σ hS hs,hR⟩
theorem P8{s':St}{sl:List (Nat×AV)}{H':List (Option bw)}(σ:Src)(hS:Sh m s'.heap σ H')(hs:mB s'.heap σ H' s'.aO sl)(hR:Rr ⟨sl,H'⟩):xQ n m Rx Rr .ret s':=by
 exact⟨_,View.sh σ hS hs,hR⟩
end
end Go.Fw
namespace Go.Fw
theorem Ca{P:Y7}{op:Op}{m:Nat}{x' y':O}(h:gQ P op=XC (.store m x' y')):∃t x y,op= .store t x y∧sn P t=XC m∧cO x=XC x'∧cO y=XC y':=by
 by_cases hs:∃t x y,op= .store t x y
 ·obtain⟨t,x,y,rfl⟩:=hs
  simp only[gQ,XF,XD,jS.store.injEq]at h
  obtain⟨k,hk,a,ha,b,hb,rfl,rfl,rfl⟩:=h
  exact⟨t,x,y,rfl,hk,ha,hb⟩
 ·exfalso
  unfold gQ at h
  split at h
  case h_9=>exact hs ⟨_,_,_,rfl⟩
  all_goals(clear hs;revert h)
  all_goals(first|(simp[XF,XD];done)|(try unfold L0))
  all_goals(repeat' split)
  all_goals simp[XF,XD]
theorem Fs{P:Y7}{op:Op}{m:Nat}{x' y':O}(h:zD P op=XC (.store m x' y')):∃t x y,op= .store t x y∧sn P t=XC m∧cO x=XC x'∧cO y=XC y':=by
 unfold zD at h
 split at h
 all_goals(try(exact Ca (by
  rw[XF]at h
  obtain⟨a,h1,h2⟩:=h
  split at h2
  ·cases h2;exact h1
  ·cases h2)))
 all_goals(exfalso;revert h)
 all_goals(first|(simp[XF,XD];done)|(repeat' split)<;>simp[XF,XD])
section
variable {P:Y7} {o:Za} {a:Act} {φ:gP} {F:Nat→Prop} {s:St} {w:Y8} {K:Out→Prop} {n:Nat}
theorem Cd(h:dm n φ F s a w){t:TypeId}{x y:Operand}(ho:o.op= .store t x y){m:Nat}{x' y':O}(ht:sn P t=XC m)(hx:cO x=XC x')(hy:cO y=XC y')
 {id ep row:Nat} {rows2:List (List D)} {r ds:List D} (hx':s.e9 x'=XC (.pe id ep row 0)) (hG2:hp s.heap id=XC (.arr ep m rows2)) (hrow:rows2[row]? =XC r)
 {v:A1} (hv:s.ev y'=XC (.one v)) (hvc:v.cells=ds.map .d) (hm:ds.length=m) (hpos:0<m) (hK:K ⟨XG,[(id,.arr ep m (rows2.set row ds))]⟩):cc P o a φ F s w K:=by
 have hcells:eD φ F (hp s.heap) w (ds.map .d) (a.eval y).cells.toList:=by
  rw[←hvc];exact cm.cells (show cm φ F (hp s.heap) w v (a.eval y)from jF h hy hv)
 have hlen:(a.eval y).cells.toList.length=m:=by rw[←bX.length hcells,←hm];simp[A1.cells]
 have hall:=eD.dx hcells
 have hne:(a.eval y).cells.toList≠[]:=by intro he;rw[he]at hlen;simp at hlen;omega
 have d1:bX (fun d u=>dh w F d u) ds (a.eval y).cells.toList:=by
  have:∀(ds:List D) (vs:List Value),eD φ F (hp s.heap) w (ds.map .d) vs→bX (fun d u=>dh w F d u) ds vs:=by
   intro ds
   induction ds with
   |nil=>intro vs hvs;cases hvs;exact .nil
   |cons d ds ih=>intro vs hvs;cases hvs with|cons q qs=>exact .cons q (ih _ qs)
  exact this ds _ hcells
 obtain⟨e,sz,rows,hG,hle,A,he,hA⟩:=dk h hx hx'
 rw[hG2]at hG;cases hG
 obtain⟨b,o',hφ,hlt,rfl⟩:=hA rfl
 have r1:=h.rel
 rcases r1.bZ _ _ hG2 with⟨q1,rfl⟩|⟨b',o2,cs,T,q1,q2,q3,q4,q5⟩
 ·simp at hrow
 rw[hφ]at q1;simp only[Zj,Zs]at q1
 obtain⟨rfl,rfl⟩:=q1
 have hbl:b<w.heap.size:=r1.lt hφ
 have hrl:r.length=m:=q4 r (XV hrow)
 have hrowlt:row<rows2.length:=(XJ.1 hrow).1
 have hmul:row*m+m≤rows2.length*m:=by
  have:=YH m hrowlt
  rw[YJ]at this;exact this
 have hspl:cf r 0 ds=ds:=by simp[cf,hm,hrl]
 obtain⟨off,hoff⟩:∃off,off=0:=⟨0,rfl⟩
 have hle2:off+m≤r.length:=by omega
 rw[←hoff]at he hspl
 have hdl0:ds.length=m:=hm
 obtain⟨w',hr,hone⟩:=iB (P:=P) (b:=b) (o:=o'+row*m+off) (T:=T) (a.eval y).cells.toList 0 w cs.toList (by simpa using q2) (by rw[hlen];simp;omega) hall hne
 refine⟨undef,w',.inr ⟨?_,rfl⟩,?_⟩
 ·refine zj (x:=Instr.storeAt t (a.eval x) (a.eval y)) (by simp only[Zb,ho]) ?_
  simp only[Instr.storeAt,he,Instr.sureAddr,run_bind,run_pure,storeVar,run_sizeOf ht]
  rw[if_neg (by simp[←hlen])]
  exact hr
 ·have hu:ed φ id (XC (b,o'))=φ:=by funext j;by_cases hj:j=id<;>simp[ed,hj,hφ]
  have hdl:ds.length=m:=by rw[bX.length d1,hlen]
  obtain⟨g1,g2,g3⟩:=r1.update id (XC (b,o')) (.arr ep m (rows2.set row (cf r off ds))) w' (by rw[hone.size];exact YA _) hone.io
   (fun b2 _ hn=>hone.rest b2 (fun he=>hn o' (he▸hφ))) (fun b2 o2 hx2=>by cases hx2;exact .inl ⟨o',hφ⟩)
   (by
     rw[hG2,hu]
     refine⟨YA _,fun _=>⟨rfl,by simp,rfl,fun b2 o2 hb2=>?_⟩⟩
     rw[hφ]at hb2;cases hb2
     refine hone.set q2 ?_
     rw[dD _ _ _ (by rw[hlen];simp;omega)];simp)
   (fun gl=>by
     refine .inr ⟨b,o',_,T,bn _ _ _,hone.bZ,?_,?_,?_⟩
     ·simp only[X6,XS]
      rw[dD _ _ _ (by rw[hlen];simp;omega)];simpa using q3
     ·intro r' hr'
      rcases Yf hr' with hr'|rfl
      ·exact q4 r' hr'
      ·rw[dD _ _ _ (by rw[hdl];exact hle2)];exact hrl
     ·intro i r' hi j d hj
      have hst:=gl.fY
      rw[Yb]at hi
      have hcl:(cf cs.toList (o'+row*m+off) (a.eval y).cells.toList).length=cs.size:=by
       rw[dD _ _ _ (by rw[hlen];simp;omega)];simp
      have hsp:∀(p:Nat),(cf cs.toList (o'+row*m+off+0) (a.eval y).cells.toList).toArray[p]? =
       if p<o'+row*m+off then cs[p]? else if p<o'+row*m+off+m then(a.eval y).cells.toList[p-(o'+row*m+off)]? else cs[p]? :=by
       intro p
       simp only[YF,List.getElem?_toArray,cf]
       rw[XW,XW]
       simp only[XP,X3,Y0,hlen]
       have:min (o'+row*m+off) cs.size=o'+row*m+off:=by omega
       rw[this]
       by_cases c1:p<o'+row*m+off
       ·rw[if_pos (by omega),if_pos c1,if_pos c1,XX,if_pos c1];simp
       ·by_cases c2:p<o'+row*m+off+m
        ·rw[if_pos c2,if_neg c1,if_neg c1,if_pos c2]
        ·rw[if_neg c2,if_neg c1,if_neg c2,XY]
         simp only[YZ]
         congr 1;omega
      by_cases hij:row=i
      ·subst hij
       simp only[if_true,hrowlt]at hi
       cases hi
       simp only[cf]at hj
       rw[XW,XW]at hj
       simp only[XP,X3,hdl]at hj
       have:min off r.length=off:=by omega
       rw[this]at hj
       rw[hsp]
       by_cases c1:j<off
       ·rw[if_pos (by omega),if_pos c1,XX,if_pos c1]at hj
        rw[if_pos (by omega)]
        obtain⟨u,hu,hd⟩:=q5 row r hrow j d hj
        exact⟨u,hu,hd.mono hst⟩
       ·by_cases c2:j<off+m
        ·rw[if_pos c2,if_neg c1]at hj
         rw[if_neg (by omega),if_pos (by omega)]
         obtain⟨u,hu,hd⟩:=bX.get d1 hj
         exact⟨u,by rw[show o'+row*m+j-(o'+row*m+off)=j-off by omega];exact hu,hd.mono hst⟩
        ·rw[if_neg c2,XY]at hj
         rw[if_neg (by omega),if_neg (by omega)]
         obtain⟨u,hu,hd⟩:=q5 row r hrow _ d hj
         exact⟨u,by rw[show off+m+(j-(off+m))=j by omega]at hu;exact hu,hd.mono hst⟩
      ·rw[if_neg hij]at hi
       obtain⟨u,hu,hd⟩:=q5 i r' hi j d hj
       refine⟨u,?_,hd.mono hst⟩
       have hjl:j<m:=by
        rw[←q4 r' (XV hi)];exact(XJ.1 hj).1
       rw[hsp]
       rcases YQ hij with hlt|hgt
       ·have:row*m+m≤i*m:=by have:=YH m hlt;rw[YJ]at this;exact this
        rw[if_neg (by omega),if_neg (by omega)];exact hu
       ·have:i*m+m≤row*m:=by have:=YH m hgt;rw[YJ]at this;exact this
        rw[if_pos (by omega)];exact hu)
  have e:hp (fE s.heap [(id,bw.arr ep m (rows2.set row (cf r off ds)))])=ed (hp s.heap) id (XC (bw.arr ep m (rows2.set row (cf r off ds)))):=eQ _ _ _
  refine⟨⟨⟨XG,[(id,bw.arr ep m (rows2.set row (cf r off ds)))]⟩,_,F,(by rw[hspl];exact hK),(fun av hav=>by cases hav),(by rw[e];exact g1),(by rw[e];exact g2),g3⟩⟩
end
section
variable {P:Y7} {n m:Nat} {w0:Y8} {F0:Nat→Prop} {R:RB} {s:St} {l:List (Option AE)} {K:Ob}
theorem FM{P:Y7}{n m:Nat}{s:St}{ops:List cq}{Rn:St→Prop}{Q:XT→St→Prop}(h:sK P n m (.reg ops) [] (sM n m Rn Q) s):gF P ops s fun s'=>∃s'',View n m s' s''∧Rn s'':=by
 rw[tI,uX]at h;exact h
theorem gr{p:St→Prop}:∀(s:St),False→p s:=fun _ h=>h.elim
end
end Go.Fw
namespace Go.Fw
section
variable {P:Y7} {n:Nat} {ops:Array Za} {o:Za} {steps:List cq} {st:cq}
theorem jt{i:Nat}(h:i<ops.size):(ops.push o)[i]? =ops[i]? :=by
 rw[YU];rw[if_neg (by omega)]
theorem oO{i:Nat}(h:i<steps.length):(steps++[st])[i]? =steps[i]? :=Yg h
theorem tv.pop(hd:tv P n (ops.push o) (steps++[st]))(hdst:st.dst=XG):tv P n ops steps:=by
 have hlen:steps.length=ops.size:=by have:=hd.len;simp at this;exact this
 have up:∀{i:Nat} {x:cq},steps[i]? =XC x→(steps++[st])[i]? =XC x:=fun h=>by
  rw[oO (XJ.1 h).1];exact h
 have down:∀{i:Nat} {x:cq},i<ops.size→(steps++[st])[i]? =XC x→steps[i]? =XC x:=fun h g=>by rwa [oO (by omega)]at g
 have hod:o.dst=XG:=by
  obtain⟨x,h1,_,_,h2,_⟩:=hd.step ops.size o (by simp)
  rw[←hlen,List.getElem?_append_right (YA _),Nat.sub_self]at h1
  cases h1;rw[←h2];exact hdst
 have hnx:∀g:Nat,((ops.push o)[g]?).bind (fun(z:Za)=>z.dst)=(ops[g]?).bind (fun(z:Za)=>z.dst):=fun g=>by
  by_cases h:g<ops.size
  ·rw[jt h]
  ·have h1:ops[g]? =XG:=Y3 (by omega)
   rw[h1,YU]
   by_cases h2:g=ops.size
   ·rw[if_pos h2];simp[hod]
   ·rw[if_neg h2,h1]
 refine⟨hlen,?_,?_,?_,?_,?_,?_,?_⟩
 ·intro i x hx
  have hi:=(Y2.1 hx).1
  obtain⟨y,h1,h2,h3,h4,h5⟩:=hd.step i x (by rw[jt hi];exact hx)
  refine⟨y,down hi h1,h2,h3,h4,?_⟩
  cases hg:x.guard with
  |none=>rw[hg]at h5;exact h5
  |some z=>
   obtain⟨g,want⟩:=z
   rw[hg]at h5
   simp only at h5⊢
   rw[hnx]at h5;exact h5
 ·intro i x hx ts hts j y hy hji
  rcases hd.lone i x (up hx) ts hts j y (up hy) hji with h|h|⟨h1,oa,h2,h3⟩
  ·exact .inl h
  ·exact .inr (.inl h)
  ·exact .inr (.inr ⟨h1,oa,h2,fun a ha=>⟨(h3 a ha).1,fun k z hk hki hz=>(h3 a ha).2 k z hk hki (up hz)⟩⟩)
 ·intro i x hx cs hcs c hc
  obtain⟨h1,h2⟩:=hd.own i x (up hx) cs hcs c hc
  exact⟨h1,fun k y hy=>h2 k y (up hy)⟩
 ·intro i x y hx hy
  have hi:=(Y2.1 hx).1
  obtain⟨h1,h2⟩:=hd.Bn i x y (by rw[jt hi];exact hx) (up hy)
  refine⟨h1,fun j hj=>?_⟩
  obtain⟨e,he,hb,h3⟩:=h2 j hj
  refine⟨e,he,hb,h3.imp id fun⟨z,hz,hj⟩=>⟨z,down ?_ hz,hj⟩⟩
  have:=(hd.trans i y (up hy) e.on (h1 e he hb)).1
  omega
 ·intro i x hx j hj
  obtain⟨h1,y,h2,h3⟩:=hd.trans i x (up hx) j hj
  have:=(XJ.1 hx).1
  exact⟨h1,y,down (by omega) h2,h3⟩
 ·intro i x hx t ht k y hy
  exact hd.read i x (up hx) t ht k y (up hy)
 ·intro i k x y t hx hy
  exact hd.dst i k x y t (up hx) (up hy)
def Oc(steps:List cq)(listed:Array Bool):Prop:=∀(i:Nat) x,listed[i]? =XC Zf→steps[i]? =XC x→∀j∈x.fD,listed[j]? =XC Zf
def QL(P:Y7)(ops:Array Za)(M:Nat)(Q:Zc→Act→Y8→Prop):Zc→Act→Y8→Prop
 | .normal,a,w=>wpOp P ops Q M (fun a w=>Q .normal a w) a w
 |e,a,w=>Q e a w
theorem Fl{Q:Zc→Act→Y8→Prop}{i:Nat}(hi:i<ops.size)(hod:o.dst=XG){K:Act→Y8→Prop}{a:Act}{w:Y8}(h:wpOp P ops (QL P (ops.push o) ops.size Q) i K a w):wpOp P (ops.push o) Q i K a w:=by
 have hy:yielded (ops.push o) a.tmps=yielded ops a.tmps:=by
  funext j
  unfold yielded
  by_cases hj:j<ops.size
  ·rw[jt hj]
  ·have h1:ops[j]? =XG:=Y3 (by omega)
   rw[h1,YU]
   by_cases h2:j=ops.size
   ·rw[if_pos h2];simp[hod]
   ·rw[if_neg h2,h1]
 unfold wpOp at h⊢
 rw[jt hi]
 cases hx:ops[i]? with
 |none=>rw[hx]at h;exact h
 |some x=>
  rw[hx]at h
  simp only at h⊢
  rw[hy]
  split
  ·rename_i hw
   rw[if_pos hw]at h
   exact h
  ·rename_i hw
   rw[if_neg hw]at h
   exact h
theorem jM{ops:Array Za}{listed:Array Bool}{i:Nat}:i∈Zl .any ops listed↔i<ops.size∧listed.getD i Zf=Ze∧∃o,ops[i]? =XC o∧∀e∈o.after,Zn .any e=Zf→listed.getD e.on Ze=Zf:=by
 unfold Zl
 simp only[List.mem_filter,List.mem_range,Zg,Zi]
 refine and_congr_right fun hi=>and_congr_right fun _=>?_
 rw[YS hi]
 simp only[XI,Option.getD_some,Array.all_eq_true,Zj,exists_eq_left',Zh,Zi]
 constructor
 ·intro h e he hb
  obtain⟨k,hk,rfl⟩:=Array.mem_iff_getElem.1 he
  rcases h k hk with h|h
  ·rw[hb]at h;cases h
  ·exact h
 ·intro h k hk
  by_cases hb:Zn .any (ops[i].after[k])=Zf
  ·exact .inr (h _ (Y1 _) hb)
  ·exact .inl (by simpa using hb)
theorem BU{Q:Zc→Act→Y8→Prop}(hd:tv P n (ops.push o) (steps++[st]))(hdst:st.dst=XG)(hall:∀j,j<ops.size→j∈st.fD)(hne:0<ops.size):
 ∀(fuel:Nat) (listed:Array Bool) (a:Act) (w:Y8),listed.size=ops.size→listed.count Ze≤fuel→Oc steps listed→wpAny P .any ops (QL P (ops.push o) ops.size Q) fuel listed a w→
  wpAny P .any (ops.push o) Q (fuel+1) (listed.push Ze) a w:=by
 have hlen:steps.length=ops.size:=by have:=hd.len;simp at this;exact this
 have hlast:(steps++[st])[ops.size]? =XC st:=by rw[←hlen];simp
 have hod:o.dst=XG:=by
  obtain⟨x,h1,_,_,h2,_⟩:=hd.step ops.size o (by simp)
  rw[hlast]at h1
  cases h1;rw[←h2];exact hdst
 have hedge:=hd.Bn ops.size o st (by simp) hlast
 have hgl:∀{listed:Array Bool} {j:Nat},listed.size=ops.size→j<ops.size→(listed.push Ze).getD j Ze=listed.getD j Ze:=fun hs hj=>by
  simp only[YT];rw[YU,if_neg (by omega)]
 have hglt:∀{listed:Array Bool} {j:Nat},listed.size=ops.size→j<ops.size→(listed.push Ze).getD j Zf=listed.getD j Zf:=fun hs hj=>by
  simp only[YT];rw[YU,if_neg (by omega)]
 have fin:∀(fuel:Nat) (listed:Array Bool) (a:Act) (w:Y8),listed.size=ops.size→(∀j,j<ops.size→listed[j]? =XC Zf)→wpOp P (ops.push o) Q ops.size (fun a w=>Q .normal a w) a w→
  wpAny P .any (ops.push o) Q (fuel+1) (listed.push Ze) a w:=by
  intro fuel listed a w hs hl h
  have hr:∀i,i∈Zl .any (ops.push o) (listed.push Ze)↔i=ops.size:=fun i=>by
   rw[jM]
   constructor
   ·rintro⟨h1,h2,_⟩
    simp at h1
    by_cases hi:i<ops.size
    ·rw[hglt hs hi,YT,hl i hi]at h2;cases h2
    ·omega
   ·rintro rfl
    refine⟨by simp,?_,o,by simp,fun e he hb=>?_⟩
    ·rw[YT,←hs];simp
    ·have:=(hd.trans ops.size st hlast e.on (hedge.1 e he hb)).1
     rw[hgl hs this,YT,hl _ this];rfl
  have hr2:Zl .any (ops.push o) ((listed.push Ze).setIfInBounds ops.size Zf)=[]:=by
   rw[Yd]
   intro i hi
   rw[jM]at hi
   obtain⟨h1,h2,_⟩:=hi
   simp at h1
   rw[YT,YV]at h2
   by_cases hi:i<ops.size
   ·rw[if_neg (by omega),YU,if_neg (by omega),hl i hi]at h2;cases h2
   ·rw[if_pos (by omega),if_pos (by simp;omega)]at h2;cases h2
  refine⟨fun h0=>?_,fun i hi=>?_⟩
  ·have:=(hr ops.size).2 rfl
   rw[h0]at this;cases this
  ·rw[(hr i).1 hi]
   refine wpOp_mono (fun a w hq=>?_) h
   cases fuel with
   |zero=>exact⟨hr2,hq⟩
   |succ fuel=>exact⟨fun _=>hq,fun i hi=>by rw[hr2]at hi;cases hi⟩
 intro fuel
 induction fuel with
 |zero=>
  intro listed a w hs hc hok h
  refine fin 0 listed a w hs (fun j hj=>?_) h.2
  have:listed.count Ze=0:=by omega
  rw[Array.count_eq_zero]at this
  rw[YS (by omega)]
  cases hv:listed[j]'(by omega)with
  |true=>rfl
  |false=>exact absurd (hv▸Y1 (by omega)) this
 |succ fuel ih=>
  intro listed a w hs hc hok h
  by_cases hl:∀j,j<ops.size→listed[j]? =XC Zf
  ·refine fin (fuel+1) listed a w hs hl ?_
   refine h.1 ?_
   rw[Yd]
   intro i hi
   rw[jM]at hi
   rw[YT,hl i hi.1]at hi
   cases hi.2.1
  ·
   have hex:∃j,j<ops.size∧listed[j]? =XC Ze:=by
    obtain⟨j,hj⟩:=Classical.not_forall.1 hl
    obtain⟨hj,h⟩:=Classical.not_imp.1 hj
    refine⟨j,hj,?_⟩
    rw[YS (by omega)]at h⊢
    cases hv:listed[j]'(by omega)with
    |true=>rw[hv]at h;exact(h rfl).elim
    |false=>rfl
   obtain⟨j0,hj0,hl0⟩:=hex
   have hr:∀i,i∈Zl .any (ops.push o) (listed.push Ze)↔i∈Zl .any ops listed:=fun i=>by
    rw[jM,jM]
    constructor
    ·rintro⟨h1,h2,x,h3,h4⟩
     simp at h1
     have hi:i<ops.size:=by
      by_cases hi:i<ops.size
      ·exact hi
      ·exfalso
       have hio:i=ops.size:=by omega
       subst hio
       simp at h3;subst h3
       obtain⟨e,he,hb,hj⟩:=hedge.2 j0 (hall j0 hj0)
       have hon:=(hd.trans ops.size st hlast e.on (hedge.1 e he hb)).1
       have hlon:=h4 e he hb
       rw[hgl hs hon]at hlon
       have hlon2:listed[e.on]? =XC Zf:=by
        rw[YT,YS (by omega)]at hlon
        rw[YS (by omega)];simpa using hlon
       rcases hj with rfl|⟨x,hx,hj⟩
       ·rw[hl0]at hlon2;cases hlon2
       ·have:=hok e.on x hlon2 (by rw[oO (by omega)]at hx;exact hx) j0 hj
        rw[hl0]at this;cases this
     rw[jt hi]at h3
     refine⟨hi,by rw[←hglt hs hi];exact h2,x,h3,fun e he hb=>?_⟩
     have hst:∃y,steps[i]? =XC y:=⟨_,XN (by omega)⟩
     obtain⟨y,hy⟩:=hst
     have hyy:(steps++[st])[i]? =XC y:=by rw[oO (by omega)];exact hy
     have hon:=(hd.trans i y hyy e.on ((hd.Bn i x y (by rw[jt hi];exact h3) hyy).1 e he hb)).1
     have:=h4 e he hb
     rwa [hgl hs (by omega)]at this
    ·rintro⟨hi,h2,x,h3,h4⟩
     refine⟨by simp;omega,by rw[hglt hs hi];exact h2,x,by rw[jt hi];exact h3,fun e he hb=>?_⟩
     have hst:∃y,steps[i]? =XC y:=⟨_,XN (by omega)⟩
     obtain⟨y,hy⟩:=hst
     have hyy:(steps++[st])[i]? =XC y:=by rw[oO (by omega)];exact hy
     have hon:=(hd.trans i y hyy e.on ((hd.Bn i x y (by rw[jt hi];exact h3) hyy).1 e he hb)).1
     rw[hgl hs (by omega)];exact h4 e he hb
   have hne2:Zl .any ops listed≠[]:=by
    intro h0
    have key:∀k,k≤ops.size→∀j,j<k→listed[j]? =XC Zf:=by
     intro k
     induction k with
     |zero=>intro _ j hj;omega
     |succ k ihk=>
      intro hk j hj
      by_cases hjk:j<k
      ·exact ihk (by omega) j hjk
      ·have:j=k:=by omega
       subst this
       cases hv:listed[j]'(by omega)with
       |true=>rw[YS (by omega),hv]
       |false=>
        exfalso
        have hm:j∈Zl .any ops listed:=by
         rw[jM]
         refine⟨by omega,by rw[YT,YS (by omega),hv];rfl,ops[j]'(by omega),YS (by omega),fun e he hb=>?_⟩
         obtain⟨y,hy⟩:∃y,steps[j]? =XC y:=⟨_,XN (by omega)⟩
         have hyy:(steps++[st])[j]? =XC y:=by rw[oO (by omega)];exact hy
         have hon:=(hd.trans j y hyy e.on ((hd.Bn j _ y (by rw[jt (by omega)];exact YS (by omega)) hyy).1 e he hb)).1
         rw[YT,ihk (by omega) e.on hon];rfl
        rw[h0]at hm;cases hm
    have:=key ops.size (YA _) j0 hj0
    rw[hl0]at this;cases this
   refine⟨fun h0=>?_,fun i hi=>?_⟩
   ·exfalso
    cases hq:Zl .any ops listed with
    |nil=>exact hne2 hq
    |cons x xs=>
     have:x∈Zl .any (ops.push o) (listed.push Ze):=(hr x).2 (by rw[hq];exact List.mem_cons_self ..)
     rw[h0]at this;cases this
   ·have hi':=(hr i).1 hi
    have hih:=h.2 i hi'
    rw[jM]at hi'
    obtain⟨hil,hnl,x,hx,haft⟩:=hi'
    refine Fl hil hod (wpOp_mono (fun a w hq=>?_) hih)
    have e:(listed.push Ze).setIfInBounds i Zf=(listed.setIfInBounds i Zf).push Ze:=by
     apply Y5
     intro j
     rw[YV,YU,YU,YV]
     simp only[Y6,Array.size_setIfInBounds]
     by_cases hij:i=j
     ·subst hij
      rw[if_pos rfl,if_pos (by omega),if_neg (by omega),if_pos rfl,if_pos (by omega)]
     ·rw[if_neg hij,if_neg hij]
    rw[e]
    have hnf:listed[i]? =XC Ze:=by
     rw[YT,YS (by omega)]at hnl
     rw[YS (by omega)];simpa using hnl
    refine ih _ a w (by simpa using hs) ?_ ?_ hq
    ·have hlt:i<listed.size:=by omega
     rw[YS hlt]at hnf
     have:(listed.setIfInBounds i Zf).count Ze+1=listed.count Ze:=by
      rw[Array.setIfInBounds_def,dif_pos hlt]
      have hv:listed[i]=Ze:=Zk hnf
      have h1:=Array.count_set (a:=Zf) (b:=Ze) (xs:=listed) (i:=i) (h:=hlt)
      rw[h1]
      have h2:0<listed.count Ze:=Array.count_pos_iff.2 (hv▸Y1 hlt)
      simp[hv];omega
     omega
    ·intro k y hk hy j hj
     rw[YV]at hk⊢
     by_cases hki:i=k
     ·subst hki
      have hyy:(steps++[st])[i]? =XC y:=by rw[oO (by omega)];exact hy
      have hed:=hd.Bn i x y (by rw[jt hil];exact hx) hyy
      obtain⟨e',he',hb',hj'⟩:=hed.2 j hj
      have hji:=(hd.trans i y hyy j hj).1
      rw[if_neg (by omega)]
      have hlon:=haft e' he' hb'
      have hon:=(hd.trans i y hyy e'.on (hed.1 e' he' hb')).1
      have hlon2:listed[e'.on]? =XC Zf:=by
       rw[YT,YS (by omega)]at hlon
       rw[YS (by omega)];simpa using hlon
      rcases hj' with rfl|⟨z,hz,hj'⟩
      ·exact hlon2
      ·exact hok e'.on z hlon2 (by rw[oO (by omega)]at hz;exact hz) j hj'
     ·rw[if_neg hki]at hk
      have:=hok k y hk hy j hj
      split
      ·rename_i hij
       subst hij
       rw[hnf]at this;cases this
      ·exact this
end
end Go.Fw
namespace Go.Fw
section
variable {P:Y7} {n m:Nat} {w0:Y8} {F0:Nat→Prop} {R:RB} {s:St} {l:List (Option AE)} {K:Ob}
end
end Go.Fw
namespace Go.Fw
section
variable {P:Y7} {o:Za} {a:Act} {φ:gP} {F:Nat→Prop} {s:St} {w:Y8} {K:Out→Prop} {n:Nat}
end
section
variable {P:Y7} {n:Nat} {w0:Y8} {F0:Nat→Prop} {s:St} {l:List (Option AE)} {K:Ob}
end
end Go.Fw
namespace Go.Fw
end Go.Fw
namespace Go.Fw
def EE(l:List (Int×Value))(es:List MapEntry):Prop:=bX (fun(e:Int×Value) (m:MapEntry)=>m.key= .int .i64 e.1∧m.val=e.2∧dx e.2=Zf) l es
inductive Fact where
 |mp (b:Nat) (l:List (Int×Value)) (bs:List Nat) (c:Nat)
 |it (r b since:Nat) (seen:Array Nat) (c:Nat)
 |fz (u:Value) (rows:List (List D))
abbrev Fj:=List Fact
abbrev QR:=XT→St→List (Option AE)→Fj→Prop
section
variable {P:Y7} {n:Nat} {w0:Y8} {F0:Nat→Prop} {R R':QR} {s:St} {l:List (Option AE)} {K:Fj} {a b:AC}
end
section
variable {P:Y7} {n m:Nat} {w0:Y8} {F0:Nat→Prop} {s:St} {l:List (Option AE)} {K:Fj} {a:AC} {Rn Rr:St→Prop} {Rx:Nat→St→Prop}
end
section
variable {P:Y7} {n m:Nat} {w0:Y8} {F0:Nat→Prop} {R:QR} {s:St} {l:List (Option AE)} {K:Fj}
end
end Go.Fw
namespace Go.Fw
open Go.MapKept (run_getObj_map run_checkKey run_findKey run_setObj_map run_keyThatStays heap_set)
theorem Pe{P:Y7}{op:Op}{aop:jS}(h:zD P op=XC aop)(h0:aop.P5=Zf):gQ P op=XC aop:=by
 unfold zD at h
 split at h
 all_goals(try(
  rw[XF]at h
  obtain⟨a,h1,h2⟩:=h
  split at h2
  ·cases h2;exact h1
  ·cases h2))
 all_goals(exfalso;revert h)
 all_goals(repeat' split)
 all_goals simp[XF,XD]
 all_goals(intros;first|(intro e;subst e;cases h0)|(subst_vars;cases h0))
theorem LA{P:Y7}{op:Op}{k:Nat}{x':O}(h:zD P op=XC (.opq k x')):(k=0∧∃t kt et x,op= .range t x∧P.underlying t=XC (.map kt et)∧cO x=XC x')∨(k=1∧∃x,op= .next x Ze∧cO x=XC x')∨(k=2∧∃x,op= .entry x∧cO x=XC x')∨∃n t e x,k=3+n∧op= .index t x (.tmp n)∧P.underlying t=XC (.array 3 e)∧k9 P e=XC XG∧cO x=XC x':=by
 have h:=Pe h rfl
 by_cases hs:(∃t x,op= .range t x)∨(∃x,op= .next x Ze)∨(∃x,op= .entry x)∨∃t x i,op= .index t x i
 ·rcases hs with⟨t,x,rfl⟩|⟨x,rfl⟩|⟨x,rfl⟩|⟨t,x,i,rfl⟩
  ·simp only[gQ]at h
   split at h
   ·rename_i kt et hu
    simp only[XD,jS.opq.injEq]at h
    obtain⟨a,ha,rfl,rfl⟩:=h
    exact .inl ⟨rfl,t,kt,et,x,rfl,hu,ha⟩
   ·cases h
  ·simp only[gQ,XD,jS.opq.injEq]at h
   obtain⟨a,ha,rfl,rfl⟩:=h
   exact .inr (.inl ⟨rfl,x,rfl,ha⟩)
  ·simp only[gQ,XD,jS.opq.injEq]at h
   obtain⟨a,ha,rfl,rfl⟩:=h
   exact .inr (.inr (.inl ⟨rfl,x,rfl,ha⟩))
  ·simp only[gQ]at h
   split at h
   ·simp only[XF,XD]at h
    obtain⟨_,_,_,_,h⟩:=h;cases h
   ·rename_i len e hu
    split at h
    ·rename_i n _
     split at h
     ·rename_i hc
      obtain⟨hc,rfl⟩:=hc
      simp only[XD,jS.opq.injEq]at h
      obtain⟨a,ha,rfl,rfl⟩:=h
      exact .inr (.inr (.inr ⟨n,t,e,x,rfl,rfl,hu,hc,ha⟩))
     ·cases h
    ·cases h
   ·cases h
 ·exfalso
  unfold gQ at h
  split at h
  all_goals(first|(exact hs (.inl ⟨_,_,rfl⟩))|(exact hs (.inr (.inl ⟨_,rfl⟩)))|(exact hs (.inr (.inr (.inl ⟨_,rfl⟩))))|(exact hs (.inr (.inr (.inr ⟨_,_,_,rfl⟩))))|skip)
  all_goals(clear hs;revert h)
  all_goals(first|(simp[XF,XD];done)|(try unfold L0))
  all_goals(repeat' split)
  all_goals simp[XF,XD]
end Go.Fw
namespace Go.Fw
open Go.ChangeMaps (setBlock)
section
variable {P:Y7} {n:Nat} {w0:Y8} {F0:Nat→Prop} {s:St} {l:List (Option AE)} {K:Fj} {st:cq} {T:St→List (Option AE)→Fj→Prop}
end
end Go.Fw
namespace Go.Fw
open Go.ChangeMaps (setBlock)
section
variable {P:Y7} {n:Nat} {w0:Y8} {F0:Nat→Prop} {s:St} {l:List (Option AE)} {K:Fj} {st:cq} {T:St→List (Option AE)→Fj→Prop}
end
end Go.Fw
namespace Go.Fw
open Go.ChangeMaps (setBlock)
section
variable {P:Y7} {n:Nat} {w0:Y8} {F0:Nat→Prop} {s:St} {l:List (Option AE)} {K:Fj} {st:cq} {T:St→List (Option AE)→Fj→Prop}
end
end Go.Fw
namespace Go.Fw
section
variable {n:Nat} {w0:Y8} {F0:Nat→Prop} {s:St} {l:List (Option AE)} {K:Fj}
variable {P:Y7} {T:St→List (Option AE)→Fj→Prop} {st:cq}
end
section
variable {P:Y7}
end
end Go.Fw
namespace Go.Fw
section
variable {P:Y7} {s:St} {K:Out→Prop}
end
section
variable {n:Nat} {w0:Y8} {F0:Nat→Prop} {s:St} {l:List (Option AE)} {K:Fj}
variable {P:Y7} {T:St→List (Option AE)→Fj→Prop} {st:cq}
theorem Ly{m:Nat}{ops:List cq}{Q:XT→St→Prop}(h:sK P n m (.regd ops) [] Q s):w9 P s.heap ops 0 s.aO [] fun s'=>Q .normal s':=by
 rw[tI]at h;exact h
end
end Go.Fw
namespace Go.Fw
def Old(φ:gP)(xs:Nat→Option (Nat×Nat))(b:Nat):Prop:=(∃id o,φ id=XC (b,o))∨∃i o,xs i=XC (b,o)
structure pJ(φ:gP)(F:Nat→Prop)(w:Y8)(xs:Nat→Option (Nat×Nat))(l:List (Option AE)):Prop where
 one:∀i e,l[i]? =XC (XC e)→iW φ F w 0 e.1 e.2.1 e.2.2 (xs i)
 inj:∀i j b o o',xs i=XC (b,o)→xs j=XC (b,o')→i=j
 rT:∀i b o,xs i=XC (b,o)→∃e,l[i]? =XC (XC e)
theorem pJ.keep{φ F w xs l φ' F' w'}(h:pJ φ F w xs l)(hf:Fr φ F w φ' F' w')(hs:∀b,F b→F' b∧w'.heap[b]? =w.heap[b]?):pJ φ' F' w' xs l:=
 ⟨fun i e he=>(h.one i e he).keep hf hs,h.inj,h.rT⟩
theorem pJ.out{φ F w xs l}(h:pJ φ F w xs l){i b o}(hx:xs i=XC (b,o)):b<w.heap.size∧¬F b∧∀id o',φ id≠XC (b,o'):=by
 obtain⟨e,he⟩:=h.rT i b o hx
 exact((h.one i e he).out b o hx).2
theorem pJ.nil(φ F w):pJ φ F w (fun _=>XG) []:=⟨fun i e h=>(by simp at h),fun i j b o o' h=>(by cases h),fun i b o h=>(by cases h)⟩
structure w8(Z:Nat→Prop)(F:Nat→Prop)(w:Y8)(φ':gP)(xs':Nat→Option (Nat×Nat))(F':Nat→Prop)(w':Y8):Prop where
 size:w.heap.size≤w'.heap.size
 rest:∀b,b<w.heap.size→¬Z b→w'.heap[b]? =w.heap[b]?
 own:∀b,Old φ' xs' b→Z b∨w.heap.size≤b
 fY:∀b,F' b→F b∨Z b∨w.heap.size≤b
 io:Io w w'
theorem w8.refl{φ xs F w}:w8 (Old φ xs) F w φ xs F w:=⟨YA _,fun _ _ _=>rfl,fun _ h=> .inl h,fun _ h=> .inl h,Io.refl _⟩
theorem w8.trans{Z F w φ xs F1 w1 φ' xs' F' w'}(h:w8 Z F w φ xs F1 w1)(h':w8 (Old φ xs) F1 w1 φ' xs' F' w'):w8 Z F w φ' xs' F' w':=by
 refine⟨YO h.size h'.size,fun b hb hz=>?_,fun b hb=>?_,fun b hb=>?_,h.io.trans h'.io⟩
 ·rw[h'.rest b (YK hb h.size) fun ho=>?_,h.rest b hb hz]
  rcases h.own b ho with h1|h1
  ·exact hz h1
  ·omega
 ·rcases h'.own b hb with h1|h1
  ·exact h.own b h1
  ·exact .inr (YO h.size h1)
 ·rcases h'.fY b hb with h1|h1|h1
  ·exact h.fY b h1
  ·exact .inr (h.own b h1)
  ·exact .inr (.inr (YO h.size h1))
theorem w8.of{φ F w xs l φ' F' w'}(hal:pJ φ F w xs l)(hf:Fr φ F w φ' F' w'):w8 (Old φ xs) F w φ' xs F' w':=by
 refine⟨hf.size,fun b hb hn=>hf.rest b hb fun id o hi=>hn (.inl ⟨id,o,hi⟩),fun b hb=>?_,fun b hb=>?_,hf.io⟩
 ·rcases hb with⟨id,o,hi⟩|⟨i,o,hi⟩
  ·rcases hf.own id b o hi with⟨i0,o0,h0⟩|h0
   ·exact .inl (.inl ⟨i0,o0,h0⟩)
   ·exact .inr h0
  ·exact .inl (.inr ⟨i,o,hi⟩)
 ·rcases hf.fY b hb with h0|⟨i0,o0,h0⟩|h0
  ·exact .inl h0
  ·exact .inr (.inl (.inl ⟨i0,o0,h0⟩))
  ·exact .inr (.inr h0)
structure pr where
 φ:gP
 F:Nat→Prop
 w:Y8
 H:List (Option bw)
 Z:Nat→Prop
structure ES(n m:Nat)(B:pr)(s:St)(l:List (Option AE))(a:Act)(w:Y8)(φ:gP)(F:Nat→Prop):Prop where
 rel:dm n φ F s a w
 al:∃xs,pJ φ F w xs l∧w8 B.Z B.F B.w φ xs F w
 gl:gY m B.φ B.F (hp B.H) B.w φ F (hp s.heap) w
section
variable {P:Y7} {n m:Nat} {B:pr} {s:St} {l:List (Option AE)}
theorem ES.step{a w φ F s' a' w' φ' F'}(h:ES n m B s l a w φ F)(h2:dm n φ' F' s' a' w')(hf:Fr φ F w φ' F' w')(hs:gY m φ F (hp s.heap) w φ' F' (hp s'.heap) w'):ES n m B s' l a' w' φ' F':=by
 obtain⟨xs,h3,h4⟩:=h.al
 exact⟨h2,⟨xs,h3.keep hf hs.fY,h4.trans (w8.of h3 hf)⟩,h.gl.trans hs⟩
abbrev RE:=XT→St→List (Option AE)→Prop
def XE(n m:Nat)(B:pr)(R:RE):Zc→Act→Y8→Prop
 | .normal,a,w=>∃s l φ F,R .normal s l∧ES n m B s l a w φ F
 | .exit id,a,w=>∃s l φ F,R (.exit id) s l∧ES n m B s l a w φ F
 | .ret,a,w=>∃s l φ F,R .ret s l∧ES n m B s l a w φ F
 |_,_,_=>False
def VE(P:Y7)(n m:Nat)(B:pr)(ac:AC)(R:RE)(s:St)(l:List (Option AE)):Prop:=
 ∀c,dC P n c=XC ac.er→∀φ F a w,ES n m B s l a w φ F→c.wp P (XE n m B R) a w
def tG(T:St→List (Option AE)→Prop)(R:RE):RE
 | .normal,s,l=>T s l
 |x,s,l=>R x s l
def qv(id:Nat)(R:RE):RE
 | .exit i,s,l=>if i=id then R .normal s l else R (.exit i) s l
 |x,s,l=>R x s l
variable {R R':RE} {a b:AC}
theorem VE.leaf(h:vc P n m a (fun e s'=>R e s' l) s):VE P n m B a R s l:=by
 intro c hc φ F ac w hs
 refine wp_mono (qK c a _ s hc h φ F ac w hs.rel) fun e a' w' hq=>?_
 have go:∀e,qC n m φ F s w (fun s'=>R e s' l) a' w'→∃s l φ F,R e s l∧ES n m B s l a' w' φ F:=by
  rintro e ⟨s1,φ1,F1,h1,h2,h3,h4⟩
  exact⟨s1,l,φ1,F1,h1,hs.step h2 h3 h4⟩
 cases e with
 |normal=>exact go _ hq
 |exit id=>exact go _ hq
 |ret=>exact go _ hq
 |_=>exact hq.elim
theorem VE.seq(h:VE P n m B a (tG (fun s l=>VE P n m B b R s l) R) s l):VE P n m B (.seq a b) R s l:=by
 intro c hc φ F ac w hs
 cases c with
 |seq x y=>
  simp only[dC,AC.er,XF,XD,AC.seq.injEq]at hc
  obtain⟨_,hx,_,hy,rfl,rfl⟩:=hc
  refine wp_seq (wp_mono (h x hx φ F ac w hs) fun e a' w' hq=>?_)
  cases e with
  |normal=>
   obtain⟨s',l',φ',F',h1,h2⟩:=hq
   exact h1 y hy φ' F' a' w' h2
  |exit id=>exact hq
  |ret=>exact hq
  |_=>exact hq.elim
 |region id ops draw=>
  simp only[dC,AC.er]at hc
  cases draw with
  |true=>
   simp only[if_true,pG,XF]at hc
   obtain⟨_,_,hc⟩:=hc
   split at hc<;>cases hc
  |false=>
   simp only[Zd,if_false,XD]at hc
   obtain⟨_,_,hc⟩:=hc;cases hc
 |cond=>simp only[dC,AC.er,XF,XD]at hc;obtain⟨_,_,_,_,_,_,hc⟩:=hc;cases hc
 |block=>simp only[dC,AC.er,XD]at hc;obtain⟨_,_,hc⟩:=hc;cases hc
 |loop=>simp only[dC,AC.er,XD]at hc;obtain⟨_,_,hc⟩:=hc;cases hc
 |_=>cases hc
theorem VE.block{id:Nat}(h:VE P n m B a (qv id R) s l):VE P n m B (.block id a) R s l:=by
 intro c hc φ F ac w hs
 cases c with
 |block id' x=>
  simp only[dC,AC.er,XD,AC.block.injEq]at hc
  obtain⟨_,hx,rfl,rfl⟩:=hc
  refine wp_block (wp_mono (h x hx φ F ac w hs) fun e a' w' hq=>?_)
  cases e with
  |normal=>exact hq
  |exit i=>
   simp only[Exit.inBlock]
   by_cases hi:i=id'
   ·subst hi
    simp only[if_true]
    obtain⟨s',l',φ',F',h1,h2⟩:=hq
    exact⟨s',l',φ',F',by simpa[qv]using h1,h2⟩
   ·simp only[hi,if_false]
    obtain⟨s',l',φ',F',h1,h2⟩:=hq
    exact⟨s',l',φ',F',by simpa[qv,hi]using h1,h2⟩
  |ret=>exact hq
  |_=>exact hq.elim
 |region id ops draw=>
  simp only[dC,AC.er]at hc
  cases draw with
  |true=>
   simp only[if_true,pG,XF]at hc
   obtain⟨_,_,hc⟩:=hc
   split at hc<;>cases hc
  |false=>
   simp only[Zd,if_false,XD]at hc
   obtain⟨_,_,hc⟩:=hc;cases hc
 |cond=>simp only[dC,AC.er,XF,XD]at hc;obtain⟨_,_,_,_,_,_,hc⟩:=hc;cases hc
 |seq=>simp only[dC,AC.er,XF,XD]at hc;obtain⟨_,_,_,_,hc⟩:=hc;cases hc
 |loop=>simp only[dC,AC.er,XD]at hc;obtain⟨_,_,hc⟩:=hc;cases hc
 |_=>cases hc
theorem VE.cond{o:O}{t:Bool}(ht:s.eZ o=XC (.bool t))(h1:t=Zf→VE P n m B a R s l)(h0:t=Ze→VE P n m B b R s l):VE P n m B (.cond o a b) R s l:=by
 intro c hc φ F ac w hs
 cases c with
 |cond c' x y=>
  simp only[dC,AC.er,XF,XD]at hc
  obtain⟨_,hc',_,hx,_,hy,he⟩:=hc
  cases he
  have e:=ee hs.rel hc' ht
  cases t with
  |true=>exact wp_cond_true e (h1 rfl x hx φ F ac w hs)
  |false=>exact wp_cond_false e (h0 rfl y hy φ F ac w hs)
 |region id ops draw=>
  simp only[dC,AC.er]at hc
  cases draw with
  |true=>
   simp only[if_true,pG,XF]at hc
   obtain⟨_,_,hc⟩:=hc
   split at hc<;>cases hc
  |false=>
   simp only[Zd,if_false,XD]at hc
   obtain⟨_,_,hc⟩:=hc;cases hc
 |seq=>simp only[dC,AC.er,XF,XD]at hc;obtain⟨_,_,_,_,hc⟩:=hc;cases hc
 |block=>simp only[dC,AC.er,XD]at hc;obtain⟨_,_,hc⟩:=hc;cases hc
 |loop=>simp only[dC,AC.er,XD]at hc;obtain⟨_,_,hc⟩:=hc;cases hc
 |_=>cases hc
theorem VE.loop(I:Nat→St→List (Option AE)→Prop)(h0:∃k,I k s l)
 (hr:∀k s l,I k s l→VE P n m B a (tG (fun s' l'=>∃k',k'<k∧I k' s' l') R) s l):VE P n m B (.loop a) R s l:=by
 intro c hc φ F ac w hs
 cases c with
 |loop c=>
  simp only[dC,AC.er,XD,AC.loop.injEq]at hc
  obtain⟨_,hx,rfl⟩:=hc
  obtain⟨k0,hI⟩:=h0
  refine xo (fun k a' w'=>∃s' l' φ' F',I k s' l'∧ES n m B s' l' a' w' φ' F') (k0:=k0) ⟨s,l,φ,F,hI,hs⟩ ?_
  rintro k a' w' ⟨s',l',φ',F',g1,g2⟩
  refine wp_mono (hr k s' l' g1 c hx φ' F' a' w' g2) fun e a'' w'' hq=>?_
  cases e with
  |normal=>
   obtain⟨s2,l2,φ2,F2,⟨k',hlt,hI'⟩,q⟩:=hq
   exact⟨k',hlt,s2,l2,φ2,F2,hI',q⟩
  |exit id=>exact hq
  |ret=>exact hq
  |_=>exact hq.elim
 |region id ops draw=>
  simp only[dC,AC.er]at hc
  cases draw with
  |true=>
   simp only[if_true,pG,XF]at hc
   obtain⟨_,_,hc⟩:=hc
   split at hc<;>cases hc
  |false=>
   simp only[Zd,if_false,XD]at hc
   obtain⟨_,_,hc⟩:=hc;cases hc
 |seq=>simp only[dC,AC.er,XF,XD]at hc;obtain⟨_,_,_,_,hc⟩:=hc;cases hc
 |cond=>simp only[dC,AC.er,XF,XD]at hc;obtain⟨_,_,_,_,_,_,hc⟩:=hc;cases hc
 |block=>simp only[dC,AC.er,XD]at hc;obtain⟨_,_,hc⟩:=hc;cases hc
 |_=>cases hc
def Te(n m:Nat)(B:pr)(J:St→List (Option AE)→Prop)(s:St)(l:List (Option AE)):Prop:=
 ∀φ F a w,ES n m B s l a w φ F→∃s' l' φ' F',J s' l'∧ES n m B s' l' a w φ' F'
theorem VE.tell{J:St→List (Option AE)→Prop}(h:Te n m B J s l)(h2:∀s' l',J s' l'→VE P n m B a R s' l'):VE P n m B a R s l:=by
 intro c hc φ F ac w hs
 obtain⟨s',l',φ',F',hJ,h3⟩:=h φ F ac w hs
 exact h2 s' l' hJ c hc φ' F' ac w h3
theorem VE.post(h:VE P n m B a R' s l)(hq:∀e s' l',R' e s' l'→Te n m B (R e) s' l'):VE P n m B a R s l:=by
 intro c hc φ F ac w hs
 refine wp_mono (h c hc φ F ac w hs) fun e a' w' hx=>?_
 cases e with
 |normal=>obtain⟨s1,l1,φ1,F1,h1,h2⟩:=hx;exact hq _ _ _ h1 φ1 F1 a' w' h2
 |exit id=>obtain⟨s1,l1,φ1,F1,h1,h2⟩:=hx;exact hq _ _ _ h1 φ1 F1 a' w' h2
 |ret=>obtain⟨s1,l1,φ1,F1,h1,h2⟩:=hx;exact hq _ _ _ h1 φ1 F1 a' w' h2
 |_=>exact hx.elim
theorem Te.refl{J:St→List (Option AE)→Prop}(h:J s l):Te n m B J s l:=fun φ F _ _ hs=>⟨s,l,φ,F,h,hs⟩
theorem Te.trans{J J':St→List (Option AE)→Prop}(h:Te n m B J s l)(h2:∀s' l',J s' l'→Te n m B J' s' l'):Te n m B J' s l:=by
 intro φ F a w hs
 obtain⟨s',l',φ',F',hJ,h3⟩:=h φ F a w hs
 exact h2 s' l' hJ φ' F' a w h3
theorem VE.skip(h:R .normal s l):VE P n m B .skip R s l:=VE.leaf h
theorem VE.exit{id:Nat}(h:R (.exit id) s l):VE P n m B (.exit id) R s l:=VE.leaf h
theorem VE.ret(h:R .ret s l):VE P n m B .ret R s l:=VE.leaf h
theorem Te.view{s':St}(hv:View n m s s'):Te n m B (fun s1 l1=>s1=s'∧l1=l) s l:=by
 intro φ F a w hs
 obtain⟨φ',F',h1,h2,h3⟩:=hv φ F a w hs.rel
 exact⟨s',l,φ',F',⟨rfl,rfl⟩,hs.step h1 h2 h3⟩
theorem VE.piece{Rn Rr:St→Prop}{Rx:Nat→St→Prop}(h:sK P n m a [] (sM n m Rn (xQ n m Rx Rr)) s):VE P n m B a (fun e s' l'=>l'=l∧pQ Rn Rx Rr e s') s l:=by
 rw[tI,uX]at h
 refine VE.post (R':=fun e s' l'=>l'=l∧Ng n m Rn (xQ n m Rx Rr) e s') (VE.leaf ?_) ?_
 ·simp only[true_and];exact GF h
 ·rintro e s' l2 ⟨h1,hq⟩
  rw[h1]
  have go:∀{R:St→Prop},(∃s'',View n m s' s''∧R s'')→Te n m B (fun s2 l'=>l'=l∧R s2) s' l:=by
   rintro R ⟨s2,hv,hR⟩
   refine(Te.view hv).trans ?_
   rintro _ _ ⟨rfl,rfl⟩
   exact Te.refl ⟨rfl,hR⟩
  cases e with
  |normal=>exact go hq
  |exit i=>exact go hq
  |ret=>exact go hq
theorem VE.pc{Rn Rr:St→Prop}{Rx:Nat→St→Prop}(h:sK P n m a [] (sM n m Rn (xQ n m Rx Rr)) s)(hn:∀s',Rn s'→Te n m B (R .normal) s' l)(hx:∀i s',Rx i s'→Te n m B (R (.exit i)) s' l)(hr:∀s',Rr s'→Te n m B (R .ret) s' l):VE P n m B a R s l:=by
 refine VE.post (VE.piece h) ?_
 rintro e s' l' ⟨h1,hq⟩
 rw[h1]
 cases e with
 |normal=>exact hn _ hq
 |exit i=>exact hx _ _ hq
 |ret=>exact hr _ hq
theorem VE.dV{Rn Rr:St→Prop}{Rx:Nat→St→Prop}(h:sK P n m a [] (sM n m Rn (xQ n m Rx Rr)) s)(hn:∀s',Rn s'→VE P n m B b R s' l)(hx:∀i s',Rx i s'→Te n m B (R (.exit i)) s' l)(hr:∀s',Rr s'→Te n m B (R .ret) s' l):VE P n m B (.seq a b) R s l:=
 VE.seq (VE.pc h (fun s' h'=>Te.refl (hn s' h')) hx hr)
def SE(P:Y7)(n m:Nat)(B:pr)(steps:List cq)(T:St→List (Option AE)→Prop)(s:St)(l:List (Option AE)):Prop:=
 ∀(ops:Array Za) (mask:Nat→Nat) (Q:Zc→Act→Y8→Prop) (rest0:List Nat) (os:List Za) (k:Nat),(∀j,j<os.length→os[j]? =ops[k+j]?)→k+os.length≤ops.size→dL P n ops mask k os=XC steps→
  ∀φ F a w,ES n m B s l a w φ F→(∀a' w' s' l' φ' F',T s' l'→ES n m B s' l' a' w' φ' F'→wpOps P ops Q rest0 a' w')→wpOps P ops Q (X5 k os.length++rest0) a w
theorem SE.ops{steps:List cq}{T:St→List (Option AE)→Prop}{K1:St→Prop}(hv:gF P steps s K1)(hT:∀s',K1 s'→Te n m B T s' l):SE P n m B steps T s l:=by
 intro ops mask Q rest0 os k h1 h2 h3 φ F a w hs hQ
 refine xq (m:=m) os k steps s K1 h1 h2 h3 hv hs.rel fun a' w' hp'=>?_
 obtain⟨s',φ',F',hK,q2,q3,q4⟩:=hp'
 obtain⟨s2,l2,φ2,F2,hT2,h5⟩:=hT s' hK φ' F' a' w' (hs.step q2 q3 q4)
 exact hQ a' w' s2 l2 φ2 F2 hT2 h5
theorem SE.append{s1 s2:List cq}{T:St→List (Option AE)→Prop}(h:SE P n m B s1 (fun s' l'=>SE P n m B s2 T s' l') s l):SE P n m B (s1++s2) T s l:=by
 intro ops mask Q rest0 os k h1 h2 h3 φ F a w hs hQ
 have hlen:=oT _ _ _ _ _ h3
 rw[XP]at hlen
 obtain⟨c1,c2⟩:=ss _ _ s1.length _ _ _ h3 (by omega)
 rw[List.take_left]at c1
 rw[Ye]at c2
 have hl1:(os.take s1.length).length=s1.length:=by rw[X3];omega
 have hl2:(os.drop s1.length).length=s2.length:=by rw[Yc];omega
 have key:=h ops mask Q (X5 (k+s1.length) s2.length++rest0) (os.take s1.length) k (fun j hj=>by rw[XX,if_pos (by omega)];exact h1 j (by omega)) (by omega) c1 φ F a w hs fun a' w' s' l' φ' F' hT hs'=>by
  have:=hT ops mask Q rest0 (os.drop s1.length) (k+s1.length) (fun j hj=>by rw[XY,h1 _ (by omega)];congr 1;omega) (by omega) c2 φ' F' a' w' hs' hQ
  rw[hl2]at this;exact this
 rw[hl1,←Yl,List.range'_append_1]at key
 rw[←hlen];exact key
theorem SE.cons{st:cq}{r:List cq}{T:St→List (Option AE)→Prop}(h:SE P n m B [st] (fun s' l'=>SE P n m B r T s' l') s l):SE P n m B (st::r) T s l:=SE.append (s1:=[st]) h
theorem SE.tell{J:St→List (Option AE)→Prop}{T:St→List (Option AE)→Prop}{steps:List cq}(h:Te n m B J s l)(h2:∀s' l',J s' l'→SE P n m B steps T s' l'):SE P n m B steps T s l:=by
 intro ops mask Q rest0 os k h1 h3 h4 φ F a w hs hQ
 obtain⟨s',l',φ',F',hJ,h5⟩:=h φ F a w hs
 exact h2 s' l' hJ ops mask Q rest0 os k h1 h3 h4 φ' F' a w h5 hQ
theorem VE.ws{steps:List cq}(h:SE P n m B steps (R .normal) s l):VE P n m B (.reg steps) R s l:=by
 intro c hc φ F a w hs
 cases c with
 |region id ops draw=>
  cases draw with
  |true=>
   simp only[dC,AC.er,if_true,pG,XF]at hc
   obtain⟨_,_,hc⟩:=hc
   split at hc<;>cases hc
  |false=>
   simp only[dC,AC.er,Zd,if_false,XD,AC.reg.injEq]at hc
   obtain⟨steps',hsteps,rfl⟩:=hc
   refine wp_region ?_
   have key:=h ops (fun _=>0) (XE n m B R) [] ops.toList 0 (fun j hj=>by simp) (by simp) hsteps φ F a w hs fun a' w' s' l' φ' F' hT hs'=>⟨s',l',φ',F',hT,hs'⟩
   rw[X8]at key
   rw[List.range_eq_range']
   simpa using key
 |seq=>simp only[dC,AC.er,XF,XD]at hc;obtain⟨_,_,_,_,hc⟩:=hc;cases hc
 |cond=>simp only[dC,AC.er,XF,XD]at hc;obtain⟨_,_,_,_,_,_,hc⟩:=hc;cases hc
 |block=>simp only[dC,AC.er,XD]at hc;obtain⟨_,_,hc⟩:=hc;cases hc
 |loop=>simp only[dC,AC.er,XD]at hc;obtain⟨_,_,hc⟩:=hc;cases hc
 |_=>cases hc
end
def jI(P:Y7)(f:Y9)(args:List A1)(H:List (Option bw))(l:List (Option AE))(J:AV→List (Option bw)→List (Option AE)→Prop):Prop:=
 ∀φ F w xs vs,Rel φ F (hp H) w→pJ φ F w xs l→bX (cm φ F (hp H) w) args vs→
  Of P f vs.toArray w fun v w'=>∃res H' l' φ' F' xs',J res H' l'∧ec φ' F' (hp H') w' res v∧Rel φ' F' (hp H') w'∧pJ φ' F' w' xs' l'∧ix φ F (hp H) w φ' F' (hp H') w'∧w8 (Old φ xs) F w φ' xs' F' w'
theorem jI.I0{P f args H res H'}(h:jI P f args H [] fun r G (l:List (Option AE))=>r=res∧G=H'∧∀(i:Nat) (e:AE),l[i]?≠XC (XC e)):aW P f args H res H':=by
 intro φ F w vs hr hA
 refine(h φ F w (fun _=>XG) vs hr (pJ.nil _ _ _) hA).mono ?_
 rintro v w' ⟨r,G,l,φ',F',xs',⟨rfl,rfl,hl⟩,g1,g2,g3,g4,g5⟩
 refine⟨φ',F',g1,g2,g4,g5.size,fun b hb hn=>g5.rest b hb ?_,fun id b o hi=>?_,fun b hb=>?_,g5.io⟩
 ·rintro(⟨id,o,hi⟩|⟨i,o,hi⟩)
  ·exact hn id o hi
  ·cases hi
 ·rcases g5.own b (.inl ⟨id,o,hi⟩)with(h1|⟨i,o,hi⟩)|h1
  ·exact .inl h1
  ·cases hi
  ·exact .inr h1
 ·rcases g5.fY b hb with h1|(h1|⟨i,o,hi⟩)|h1
  ·exact .inl h1
  ·exact .inr (.inl h1)
  ·cases hi
  ·exact .inr (.inr h1)
def zr(pT:List RV)(J:AV→List (Option bw)→List (Option AE)→Prop):RE
 | .exit _,_,_=>False
 |_,s,l=>mD s pT fun r=>J (bJ r) s.heap l
theorem iJ{P:Y7}{f:Y9}{A:dG}(hf:nv P f=XC A.er){args:List A1}{H:List (Option bw)}{l:List (Option AE)}{J:AV→List (Option bw)→List (Option AE)→Prop}(hlen:args.length≤A.ntmps)
 (h:∀B:pr,VE P A.ntmps H.length B A.code (zr A.pT J) ⟨gh 0 args,H⟩ l):jI P f args H l J:=by
 unfold nv at hf
 split at hf
 ·rename_i fn hfn
  split at hf
  ·rename_i c hbody
   split at hf
   ·rename_i hname
    simp only[XF,XD]at hf
    obtain⟨pT,hrvs,ac,hac,hA0⟩:=hf
    obtain⟨nt,rv0,code⟩:=A
    simp only[dG.er,dG.mk.injEq]at hA0
    obtain⟨rfl,rfl,rfl⟩:=hA0
    refine fun φ F w xs vs hr hal hA=> .inl ⟨by simp[AO,hfn,hbody];simpa using hname,?_⟩
    refine calls_of_wp hfn hbody ?_
    have hvl:vs.length≤fn.ntmps:=by rw[←bX.length hA];exact hlen
    have hs:dm fn.ntmps φ F ⟨gh 0 args,H⟩ {tmps:=vs.toArray++YW (fn.ntmps-vs.toArray.size) undef,defers:=[]} w:=by
     refine⟨by simp;omega,rfl,hr,fun t av ht=>?_⟩
     rw[oN]at ht
     simp only[YN,if_true,YI,XD]at ht
     obtain⟨x,hx,rfl⟩:=ht
     obtain⟨v,hv,hrep⟩:=bX.get hA hx
     have hlt:=(XJ.1 hv).1
     have:(vs.toArray++YW (fn.ntmps-vs.toArray.size) undef).getD t undef=v:=by
      rw[YT,YX (by simpa using hlt)]
      simp[hv]
     rw[this];exact hrep
    have hES:ES fn.ntmps H.length ⟨φ,F,w,H,Old φ xs⟩ ⟨gh 0 args,H⟩ l {tmps:=vs.toArray++YW (fn.ntmps-vs.toArray.size) undef,defers:=[]} w φ F:=⟨hs,⟨xs,hal,w8.refl⟩,gY.refl _ _ _ _ _⟩
    have hw:=h ⟨φ,F,w,H,Old φ xs⟩ c hac φ F _ w hES
    refine wp_mono hw fun e a' w' hq=>?_
    have fin:(∃s l' φ' F',(mD s pT fun r=>J (bJ r) s.heap l')∧ES fn.ntmps H.length ⟨φ,F,w,H,Old φ xs⟩ s l' a' w' φ' F')→bodyPost P fn (fun e w'=>∃v,e= .returned v∧∃res H' l' φ' F' xs',J res H' l'∧ec φ' F' (hp H') w' res v∧Rel φ' F' (hp H') w'∧pJ φ' F' w' xs' l'∧ix φ F (hp H) w φ' F' (hp H') w'∧w8 (Old φ xs) F w φ' xs' F' w') .ret a' w':=by
     rintro⟨s',l',φ1,F1,h1,h2⟩
     obtain⟨r,vs',h5,h6,h7⟩:=pX (P:=P) h2.rel hrvs h1
     obtain⟨xs1,k1,k2⟩:=h2.al
     have hstp:ix φ F (hp H) w φ1 F1 (hp s'.heap) w':=by
      refine⟨h2.gl.fY,fun id=>?_⟩
      by_cases hid:id<H.length
      ·exact h2.gl.bZ id hid
      ·have:hp H id=XG:=by simp[hp,XU (by omega:H.length≤id)]
       simp only[this];trivial
     refine⟨h2.rel.defers,if h:vs'.toArray.size=1 then vs'.toArray[0]else .tuple vs'.toArray,?_,_,rfl,bJ r,s'.heap,l',φ1,F1,xs1,h5,?_,h2.rel.rel,k1,hstp,k2⟩
     ·rw[vh]
      simp only[Array.mapM_eq_mapM_toList,run_bind]
      have e:(Functor.map (f:=Sem) List.toArray (Yw (qZ a'.tmps) fn.results.toList)).run P w'= .ok vs'.toArray w':=by
       have:=run_bind P (Yw (qZ a'.tmps) fn.results.toList) (fun x=>pure x.toArray) w'
       rw[h7]at this
       exact this
      rw[e]
      simp only[run_pure]
     ·have hl:=bX.length h6
      cases r with
      |nil=>cases h6;exact⟨[],rfl,.nil⟩
      |cons x r=>
       cases r with
       |nil=>
        cases h6 with
        |cons hx hn=>cases hn;exact hx
       |cons y r=>
        cases h6 with
        |cons hx hn=>
         cases hn with
         |cons hy hn=>
          exact⟨_,by simp,.cons hx (.cons hy hn)⟩
    cases e with
    |normal=>exact fin hq
    |ret=>exact fin hq
    |exit id=>obtain⟨s',l',φ',F',h1,_⟩:=hq;exact h1.elim
    |_=>exact hq.elim
   ·cases hf
  ·cases hf
 ·cases hf
end Go.Fw
namespace Go.Fw
theorem eE{α:Type}{xs:List α}{j:Int}{y z:α}(h:cI xs j=XC y):cI (xs.set j.toNat z) j=XC z:=by
 obtain⟨h1,h2,h3⟩:=aQ h
 unfold cI
 rw[if_pos h1,XK (by omega)]
theorem CZ{φ F G w xs l id e sz rows u i}(hr:Rel φ F G w)(hG:G id=XC (.arr e sz rows))(hc:dA φ F G w (.own id e 0 rows.length XG) u)(hal:pJ φ F w xs l)(hi:l[i]? =XC XG):
 Rel (ed φ id XG) F (ed G id (XC (.arr (e+1) sz []))) w∧ix φ F G w (ed φ id XG) F (ed G id (XC (.arr (e+1) sz []))) w∧
  pJ (ed φ id XG) F w (ed xs i (φ id)) (l.set i (XC (u,sz,rows)))∧∀b,Old (ed φ id XG) (ed xs i (φ id)) b→Old φ xs b:=by
 obtain⟨h1,h2,h3,_⟩:=O1 (m:=0) hr hG hc (Al.nil φ F w 0) fun _ _ _=>YN _
 have hdn:∀j b o,ed φ id XG j=XC (b,o)→j≠id∧φ j=XC (b,o):=by
  intro j b o hj
  by_cases hjj:j=id
  ·subst hjj;rw[bn]at hj;cases hj
  ·rw[cn _ _ hjj]at hj;exact⟨hjj,hj⟩
 have hil:i<l.length:=(XJ.1 hi).1
 refine⟨h1,h2,⟨fun j x hj=>?_,fun j k b o o' hj hk=>?_,fun j b o hj=>?_⟩,fun b hb=>?_⟩
 ·by_cases hji:j=i
  ·subst hji
   rw[XK hil]at hj
   simp only[Zj]at hj
   subst hj
   rw[bn]
   obtain⟨e',sz',rows',hg,_,A,k,c,rfl,hk⟩:=hc
   rw[hG]at hg;cases hg
   obtain⟨rfl,hlk,_,_,hor⟩:=hk rfl
   refine⟨⟨A,c,rfl,hlk,hor.imp (fun h=>h) ?_⟩,hr.bZ id _ hG,fun b o hx=>⟨YN _,hr.lt hx,fun hF=>(hr.fY b hF).2 id b o hx rfl,fun j o' hj=>?_⟩⟩
   ·rintro⟨b,o,n,hx,hA,hn,hle⟩
    rw[YG,YF]at hA hle
    exact⟨b,o,n,hx,hA,hn,hle⟩
   ·obtain⟨h3,h4⟩:=hdn j b o' hj
    exact h3 (hr.inj j id b o' b o h4 hx rfl)
  ·rw[XL (Zr hji)]at hj
   rw[cn _ _ hji]
   exact(hal.one j x hj).keep h3 fun b hF=>⟨hF,rfl⟩
 ·by_cases hji:j=i<;>by_cases hki:k=i
  ·rw[hji,hki]
  ·subst hji
   rw[bn]at hj;rw[cn _ _ hki]at hk
   exact((hal.out hk).2.2 id o hj).elim
  ·subst hki
   rw[bn]at hk;rw[cn _ _ hji]at hj
   exact((hal.out hj).2.2 id o' hk).elim
  ·rw[cn _ _ hji]at hj;rw[cn _ _ hki]at hk
   exact hal.inj j k b o o' hj hk
 ·by_cases hji:j=i
  ·subst hji;exact⟨_,XK hil⟩
  ·rw[cn _ _ hji]at hj
   rw[XL (Zr hji)]
   exact hal.rT j b o hj
 ·rcases hb with⟨j,o,hj⟩|⟨j,o,hj⟩
  ·exact .inl ⟨j,o,(hdn j b o hj).2⟩
  ·by_cases hji:j=i
   ·subst hji;rw[bn]at hj;exact .inl ⟨id,o,hj⟩
   ·rw[cn _ _ hji]at hj;exact .inr ⟨j,o,hj⟩
theorem DS{φ F G w xs l i u sz rows id}(hr:Rel φ F G w)(hG:G id=XG)(hal:pJ φ F w xs l)(hi:l[i]? =XC (XC (u,sz,rows))):
 Rel (ed φ id (xs i)) F (ed G id (XC (.arr 0 sz rows))) w∧ix φ F G w (ed φ id (xs i)) F (ed G id (XC (.arr 0 sz rows))) w∧
  dA (ed φ id (xs i)) F (ed G id (XC (.arr 0 sz rows))) w (.own id 0 0 rows.length XG) u∧pJ (ed φ id (xs i)) F w (ed xs i XG) (l.set i XG)∧∀b,Old (ed φ id (xs i)) (ed xs i XG) b→Old φ xs b:=by
 have ho:iW φ F w 0 u sz rows (xs i):=hal.one i _ hi
 have hφ:φ id=XG:=by
  cases h:φ id with
  |none=>rfl
  |some y=>have:=hr.rT id y h;rw[hG]at this;cases this
 have hnid:∀j,G j≠XG→j≠id:=fun j hj e=>hj (e▸hG)
 have gl:ix φ F G w (ed φ id (xs i)) F (ed G id (XC (.arr 0 sz rows))) w:=by
  refine⟨fun b hF=>⟨hF,rfl⟩,fun j=>?_⟩
  by_cases hj:j=id
  ·subst hj;rw[hG];trivial
  ·rw[cn _ _ hj];exact gX.same (cn _ _ hj) fun b o hφ=>rfl
 refine⟨⟨fun j bl hj=>?_,fun j y hy=>?_,fun j k b o b' o' hj hk hbb=>?_,fun b hF=>⟨(hr.fY b hF).1,fun j b' o hj hbb=>?_⟩⟩,gl,?_,⟨fun j e hj=>?_,fun j k b o o' hj hk=>?_,fun j b o hj=>?_⟩,fun b hb=>?_⟩
 ·by_cases hj':j=id
  ·subst hj';rw[bn]at hj;cases hj
   rcases ho.bZ with⟨g1,g2⟩|⟨b,o,cs,T,g1,g2,g3,g4,g5⟩
   ·exact .inl ⟨by rw[bn];exact g1,g2⟩
   ·exact .inr ⟨b,o,cs,T,by rw[bn];exact g1,g2,g3,g4,g5⟩
  ·rw[cn _ _ hj']at hj
   exact kj.mono gl (cn _ _ hj') (fun _ _ _=>rfl) (hr.bZ j bl hj)
 ·by_cases hj:j=id
  ·subst hj;simp
  ·rw[cn _ _ hj]at hy⊢;exact hr.rT j y hy
 ·subst hbb
  by_cases hj':j=id<;>by_cases hk':k=id
  ·rw[hj',hk']
  ·subst hj'
   rw[bn]at hj;rw[cn _ _ hk']at hk
   exact((ho.out b o hj).2.2.2 k o' hk).elim
  ·subst hk'
   rw[bn]at hk;rw[cn _ _ hj']at hj
   exact((ho.out b o' hk).2.2.2 j o hj).elim
  ·rw[cn _ _ hj']at hj;rw[cn _ _ hk']at hk
   exact hr.inj j k b o b o' hj hk rfl
 ·subst hbb
  by_cases hj':j=id
  ·subst hj';rw[bn]at hj;exact(ho.out b' o hj).2.2.1 hF
  ·rw[cn _ _ hj']at hj;exact(hr.fY b' hF).2 j b' o hj rfl
 ·obtain⟨A,k,rfl,hlk,hor⟩:=ho.val
  refine⟨0,sz,rows,bn _ _ _,YA _,A,rows.length,k,rfl,fun _=>⟨rfl,hlk,(fun c hc=>by cases hc),(fun _=>by omega),hor.imp (fun h=>h) ?_⟩⟩
  rintro⟨b,o,n,hx,hA,hn,hle⟩
  exact⟨b,o,n,by rw[bn];exact hx,by rw[YG,YF];exact hA,hn,by rw[YG,YF];exact hle⟩
 ·have hji:j≠i:=by
   rintro rfl
   rw[Yb]at hj
   simp only[if_true]at hj
   split at hj<;>cases hj
  rw[XL (Zr hji)]at hj
  rw[cn _ _ hji]
  have hjo:=hal.one j e hj
  refine⟨hjo.val,hjo.bZ,fun b o hx=>?_⟩
  obtain⟨q1,q2,q3,q4⟩:=hjo.out b o hx
  refine⟨q1,q2,q3,fun k o' hk=>?_⟩
  by_cases hk':k=id
  ·subst hk';rw[bn]at hk
   exact hji (hal.inj j i b o o' hx hk)
  ·rw[cn _ _ hk']at hk;exact q4 k o' hk
 ·by_cases hji:j=i
  ·subst hji;rw[bn]at hj;cases hj
  ·by_cases hki:k=i
   ·subst hki;rw[bn]at hk;cases hk
   ·rw[cn _ _ hji]at hj;rw[cn _ _ hki]at hk
    exact hal.inj j k b o o' hj hk
 ·by_cases hji:j=i
  ·subst hji;rw[bn]at hj;cases hj
  ·rw[cn _ _ hji]at hj
   rw[XL (Zr hji)]
   exact hal.rT j b o hj
 ·rcases hb with⟨j,o,hj⟩|⟨j,o,hj⟩
  ·by_cases hj':j=id
   ·subst hj';rw[bn]at hj;exact .inr ⟨i,o,hj⟩
   ·rw[cn _ _ hj']at hj;exact .inl ⟨j,o,hj⟩
  ·by_cases hji:j=i
   ·subst hji;rw[bn]at hj;cases hj
   ·rw[cn _ _ hji]at hj;exact .inr ⟨j,o,hj⟩
theorem LM{φ F G w xs l}(hr:Rel φ F G w)(hal:pJ φ F w xs l):∃F':Nat→Prop,Rel φ F' G w∧ix φ F G w φ F' G w∧(∀b,F' b→F b∨Old φ xs b)∧
 ∀(i:Nat) u sz rows,l[i]? =XC (XC (u,sz,rows))→dh w F' (.sl rows) u:=by
 have hA:Al φ F w 0 l:=⟨⟨xs,fun i e he=>hal.one i e he,fun i j b o o' e e' _ _ hx hy=>hal.inj i j b o o' hx hy⟩⟩
 let F':Nat→Prop:=fun b=>F b∨∃i o,xs i=XC (b,o)
 have gl:ix φ F G w φ F' G w:=⟨fun b hF=>⟨.inl hF,rfl⟩,fun j=>gX.refl _ _ _ _⟩
 refine⟨F',⟨fun j bl hj=>kj.mono gl rfl (fun _ _ _=>rfl) (hr.bZ j bl hj),hr.rT,hr.inj,fun b hF=>?_⟩,gl,fun b hF=>hF.imp id .inr,fun i u sz rows hi=>?_⟩
 ·rcases hF with hF|⟨i,o,hx⟩
  ·exact hr.fY b hF
  ·obtain⟨q2,q3,q4⟩:=hal.out hx
   exact⟨q2,fun j b' o' hj hbb=>q4 j o' (hbb▸hj)⟩
 ·have ho:iW φ F w 0 u sz rows (xs i):=hal.one i _ hi
  obtain⟨A,k,rfl,hlk,hor⟩:=ho.val
  rcases ho.bZ with⟨_,rfl⟩|⟨b,o,cs,T,g1,g2,g3,g4,g5⟩
  ·exact .nil A k
  ·by_cases h0:rows=[]
   ·subst h0;exact .nil A k
   ·have hk:k≠0:=by
     intro h;subst h
     exact h0 (Yi.1 (by omega))
    rcases hor with h|⟨b',o',n,e1,e2,_,_⟩
    ·exact(hk h).elim
    ·rw[g1]at e1;cases e1
     subst e2
     refine dh.sl rows b o sz k (fun i j=>(cs[o+i*sz+j]?).getD (.bool Zf)) (.inr ⟨i,o,g1⟩) hlk g4 (fun i row hi j d hj=>?_) (fun i row hi j d hj=>?_)
     ·obtain⟨u,hu,_⟩:=g5 i row hi j d hj
      rw[cell?_of_heap g2,hu];simp
     ·obtain⟨u,hu,hd⟩:=g5 i row hi j d hj
      rw[hu];exact hd.mono fun b hb=>⟨.inl hb,rfl⟩
theorem pJ.sub{φ F w xs l l'}(h:pJ φ F w xs l)(f:Nat→Nat)(hf:∀i j e e',l'[i]? =XC (XC e)→l'[j]? =XC (XC e')→f i=f j→i=j)(hl:∀(i:Nat) e,l'[i]? =XC (XC e)→l[f i]? =XC (XC e)):
 ∃xs',pJ φ F w xs' l'∧∀b,Old φ xs' b→Old φ xs b:=by
 classical
 refine⟨fun i=>if∃e,l'[i]? =XC (XC e)then xs (f i)else XG,⟨fun i e hi=>?_,fun i j b o o' hi hj=>?_,fun i b o hi=>?_⟩,fun b hb=>?_⟩
 ·simp only[if_pos (⟨e,hi⟩:∃e,l'[i]? =XC (XC e))]
  exact h.one (f i) e (hl i e hi)
 ·split at hi
  ·rename_i h1
   split at hj
   ·rename_i h2
    obtain⟨e,h1⟩:=h1;obtain⟨e',h2⟩:=h2
    exact hf i j e e' h1 h2 (h.inj _ _ b o o' hi hj)
   ·cases hj
  ·cases hi
 ·split at hi
  ·rename_i h1;exact h1
  ·cases hi
 ·rcases hb with hb|⟨i,o,hi⟩
  ·exact .inl hb
  ·simp only at hi
   split at hi
   ·exact .inr ⟨_,o,hi⟩
   ·cases hi
theorem HO{φ F G w}(h:Rel φ F G w){p:Nat}{cells cells':List C}(hlen:cells'.length=cells.length)(hG:G p=XC (.box cells))
 (hc:∀b o cs T,φ p=XC (b,o)→w.heap[b]? =XC (.cells cs T (0,0))→eD φ F G w cells ((cs.toList.drop o).take cells.length)→eD φ F G w cells' ((cs.toList.drop o).take cells.length)):
 Rel φ F (ed G p (XC (.box cells'))) w∧ix φ F G w φ F (ed G p (XC (.box cells'))) w:=by
 have key:=h.update p (φ p) (.box cells') w (YA _) (Io.refl _) (fun _ _ _=>rfl) (fun b o hx=> .inl ⟨o,hx⟩) (by rw[hG];exact⟨bn _ _ _,hlen,fun b o _=>nz.refl _ _ _ _⟩) (fun gl=>by
  obtain⟨b,o,cs,T,h1,h2,h4,h3⟩:=h.bZ p _ hG
  rw[lU]at gl⊢
  exact⟨b,o,cs,T,h1,h2,by rw[hlen];exact h4,by rw[hlen];exact(hc b o cs T h1 h2 h3).mono gl⟩)
 rw[lU]at key
 exact⟨key.1,key.2.1⟩
section
variable {P:Y7} {n m:Nat} {B:pr} {s:St} {l:List (Option AE)}
theorem ES.of{a w φ F xs xs' s' l' φ' F'}(h:ES n m B s l a w φ F)(hz:w8 B.Z B.F B.w φ xs F w)(gl:ix φ F (hp s.heap) w φ' F' (hp s'.heap) w)(hr:Rel φ' F' (hp s'.heap) w)
 (hsl:∀t av,lk s'.aO t=XC av→ec φ' F' (hp s'.heap) w av (a.tmps.getD t undef)) (hal:pJ φ' F' w xs' l') (ho:∀b,Old φ' xs' b→Old φ xs b) (hf:∀b,F' b→F b∨Old φ xs b):ES n m B s' l' a w φ' F':=
 ⟨⟨h.rel.size,h.rel.defers,hr,hsl⟩,⟨xs',hal,hz.trans ⟨YA _,fun _ _ _=>rfl,fun b hb=> .inl (ho b hb),fun b hb=>(hf b hb).imp id .inl,Io.refl _⟩⟩,h.gl.trans gl.m⟩
theorem Te.sub{l':List (Option AE)}(f:Nat→Nat)(hf:∀i j e e',l'[i]? =XC (XC e)→l'[j]? =XC (XC e')→f i=f j→i=j)(hl:∀(i:Nat) e,l'[i]? =XC (XC e)→l[f i]? =XC (XC e)):
 Te n m B (fun s1 l1=>s1=s∧l1=l') s l:=by
 intro φ F a w h
 obtain⟨xs,h1,h2⟩:=h.al
 obtain⟨xs',h3,h4⟩:=h1.sub f hf hl
 exact⟨s,l',φ,F,⟨rfl,rfl⟩,h.of h2 (ix.refl _ _ _ _) h.rel.rel h.rel.slot h3 h4 fun b hb=> .inl hb⟩
theorem Te.mu{p:Nat}{cells:List C}{j i sz:Nat}{u:Value}{rows:List (List D)}(hB:hp s.heap p=XC (.box cells))(hj:cells[j]? =XC (.d (.w u)))(hi:l[i]? =XC (XC (u,sz,rows))):
 Te n m B (fun s' l'=>s'=⟨s.aO,cH (cH s.heap s.heap.length (.arr 0 sz rows)) p (.box (cells.set j (.own s.heap.length 0 0 rows.length XG)))⟩∧l'=l.set i XG) s l:=by
 intro φ F a w h
 obtain⟨xs,hal,hz⟩:=h.al
 obtain⟨h1,h2,h3,h4,h5⟩:=DS h.rel.rel (iY s.heap) hal hi
 have hpne:p≠s.heap.length:=fun e=>by subst e;rw[iY]at hB;cases hB
 have hB':ed (hp s.heap) s.heap.length (XC (.arr 0 sz rows)) p=XC (.box cells):=by rw[cn _ _ hpne];exact hB
 obtain⟨g1,g2⟩:=ON h1 (cells':=cells.set j (.own s.heap.length 0 0 rows.length XG)) (by simp) hB' (fun vs hvs=>by
  obtain⟨v,hv,hc⟩:=bX.get hvs hj
  cases hc
  exact hvs.set hv h3)
 have e0:hp (cH (cH s.heap s.heap.length (.arr 0 sz rows)) p (.box (cells.set j (.own s.heap.length 0 0 rows.length XG))))=ed (ed (hp s.heap) s.heap.length (XC (.arr 0 sz rows))) p (XC (.box (cells.set j (.own s.heap.length 0 0 rows.length XG)))):=by
  rw[eQ,eQ]
 refine⟨_,_,ed φ s.heap.length (xs i),F,⟨rfl,rfl⟩,h.of hz (by rw[e0];exact h2.trans g2) (by rw[e0];exact g1) (fun t av hav=>?_) h4 h5 fun b hb=> .inl hb⟩
 rw[e0];exact(h.rel.slot t av hav).mono (h2.trans g2)
theorem Te.wZ{t:Nat}{cells:List C}{j i sz:Nat}{u:Value}{rows:List (List D)}(hs:lk s.aO t=XC (.one (.agg cells)))(hj:cells[j]? =XC (.d (.w u)))(hi:l[i]? =XC (XC (u,sz,rows))):
 Te n m B (fun s' l'=>s'=⟨(t,.one (.agg (cells.set j (.own s.heap.length 0 0 rows.length XG))))::s.aO,cH s.heap s.heap.length (.arr 0 sz rows)⟩∧l'=l.set i XG) s l:=by
 intro φ F a w h
 obtain⟨xs,hal,hz⟩:=h.al
 obtain⟨h1,h2,h3,h4,h5⟩:=DS h.rel.rel (iY s.heap) hal hi
 have e0:hp (cH s.heap s.heap.length (.arr 0 sz rows))=ed (hp s.heap) s.heap.length (XC (.arr 0 sz rows)):=eQ _ _ _
 refine⟨_,_,ed φ s.heap.length (xs i),F,⟨rfl,rfl⟩,h.of hz (by rw[e0];exact h2) (by rw[e0];exact h1) (fun t' av hav=>?_) h4 h5 fun b hb=> .inl hb⟩
 rw[e0]
 simp only[iU]at hav
 split at hav
 ·rename_i htt;subst htt;cases hav
  obtain⟨vs,hv,hcs⟩:=h.rel.slot t' _ hs
  have hcs':=eD.mono h2 hcs
  obtain⟨v,hv',hc⟩:=bX.get hcs' hj
  cases hc
  exact⟨vs,hv,hcs'.set hv' h3⟩
 ·exact(h.rel.slot t' av hav).mono h2
theorem Te.ml{p:Nat}{cells:List C}{j i id e sz:Nat}{rows:List (List D)}(hB:hp s.heap p=XC (.box cells))(hj:cells[j]? =XC (.own id e 0 rows.length XG))(hG:hp s.heap id=XC (.arr e sz rows))(hi:l[i]? =XC XG):
 Te n m B (fun s' l'=>∃u,s'=⟨s.aO,cH (cH s.heap id (.arr (e+1) sz [])) p (.box (cells.set j (.d (.w u))))⟩∧l'=l.set i (XC (u,sz,rows))) s l:=by
 intro φ F a w h
 obtain⟨xs,hal,hz⟩:=h.al
 obtain⟨b,o,cs,T,b1,b2,b3,b4⟩:=h.rel.rel.bZ p _ hB
 obtain⟨u,hu,hc⟩:=bX.get b4 hj
 obtain⟨h1,h2,h4,h5⟩:=CZ h.rel.rel hG hc hal hi
 have hpne:p≠id:=fun e=>by subst e;rw[hB]at hG;cases hG
 have hB':ed (hp s.heap) id (XC (.arr (e+1) sz [])) p=XC (.box cells):=by rw[cn _ _ hpne];exact hB
 obtain⟨g1,g2⟩:=HO h1 (cells':=cells.set j (.d (.w u))) (by simp) hB' (fun b' o' cs' T' q1 q2 q3=>by
  rw[cn _ _ hpne,b1]at q1;simp only[Zj,Zs]at q1
  obtain⟨rfl,rfl⟩:=q1
  rw[b2]at q2;cases q2
  exact q3.set hu (dh.raw _ (dA.dx hc)))
 have e0:hp (cH (cH s.heap id (.arr (e+1) sz [])) p (.box (cells.set j (.d (.w u)))))=ed (ed (hp s.heap) id (XC (.arr (e+1) sz []))) p (XC (.box (cells.set j (.d (.w u))))):=by rw[eQ,eQ]
 refine⟨_,_,ed φ id XG,F,⟨u,rfl,rfl⟩,h.of hz (by rw[e0];exact h2.trans g2) (by rw[e0];exact g1) (fun t av hav=>?_) h4 h5 fun b hb=> .inl hb⟩
 rw[e0];exact(h.rel.slot t av hav).mono (h2.trans g2)
theorem Te.wj{t:Nat}{cells:List C}{j i id e sz:Nat}{rows:List (List D)}(hs:lk s.aO t=XC (.one (.agg cells)))(hj:cells[j]? =XC (.own id e 0 rows.length XG))(hG:hp s.heap id=XC (.arr e sz rows))(hi:l[i]? =XC XG):
 Te n m B (fun s' l'=>∃u,s'=⟨(t,.one (.agg (cells.set j (.d (.w u)))))::s.aO,cH s.heap id (.arr (e+1) sz [])⟩∧l'=l.set i (XC (u,sz,rows))) s l:=by
 intro φ F a w h
 obtain⟨xs,hal,hz⟩:=h.al
 obtain⟨vs,hv,hcs⟩:=h.rel.slot t _ hs
 obtain⟨u,hu,hc⟩:=bX.get hcs hj
 obtain⟨h1,h2,h4,h5⟩:=CZ h.rel.rel hG hc hal hi
 have e0:hp (cH s.heap id (.arr (e+1) sz []))=ed (hp s.heap) id (XC (.arr (e+1) sz [])):=eQ _ _ _
 refine⟨_,_,ed φ id XG,F,⟨u,rfl,rfl⟩,h.of hz (by rw[e0];exact h2) (by rw[e0];exact h1) (fun t' av hav=>?_) h4 h5 fun b hb=> .inl hb⟩
 rw[e0]
 simp only[iU]at hav
 split at hav
 ·rename_i htt;subst htt;cases hav
  exact⟨vs,hv,(hcs.mono h2).set hu (dh.raw _ (dA.dx hc))⟩
 ·exact(h.rel.slot t' av hav).mono h2
theorem Te.giveUp{o e so:Nat}{R R':List (List D)}(hO:hp s.heap o=XC (.arr e so R))(hl:R'.length=R.length)
 (hc:∀(i:Nat) r r',R[i]? =XC r→R'[i]? =XC r'→r'.length=r.length∧∀(j:Nat) d d',r[j]? =XC d→r'[j]? =XC d'→d'=d∨∃(k:Nat) (u:Value) (sz:Nat) (rows:List (List D)),d= .w u∧l[k]? =XC (XC (u,sz,rows))∧d'= .sl rows):
 Te n m B (fun s' l'=>s'=⟨s.aO,cH s.heap o (.arr e so R')⟩∧l'=[]) s l:=by
 intro φ F a w h
 obtain⟨xs,hal,hz⟩:=h.al
 obtain⟨F',h1,h2,h3,h4⟩:=LM h.rel.rel hal
 obtain⟨g1,g2⟩:=OO h1 (R':=R') hO hl (fun i r r' hr hr'=>by
  obtain⟨q1,q2⟩:=hc i r r' hr hr'
  refine⟨q1,fun j d d' hj hj' v hv=>?_⟩
  rcases q2 j d d' hj hj' with rfl|⟨k,u,sz,rows,rfl,hk,rfl⟩
  ·exact hv
  ·cases hv;exact h4 k _ sz rows hk)
 have e0:hp (cH s.heap o (.arr e so R'))=ed (hp s.heap) o (XC (.arr e so R')):=eQ _ _ _
 refine⟨_,_,φ,F',⟨rfl,rfl⟩,h.of hz (by rw[e0];exact h2.trans g2) (by rw[e0];exact g1) (fun t av hav=>?_) (pJ.nil _ _ _) (fun b hb=>?_) h3⟩
 ·rw[e0];exact(h.rel.slot t av hav).mono (h2.trans g2)
 ·rcases hb with hb|⟨_,_,hb⟩
  ·exact .inl hb
  ·cases hb
theorem Te.Nw{p:Nat}{cells:List C}{j:Nat}{c:C}(hB:hp s.heap p=XC (.box cells))(hj:cells[j]? =XC c):
 Te n m B (fun s' l'=>∃u,s'=⟨s.aO,cH s.heap p (.box (cells.set j (.d (.w u))))⟩∧l'=l) s l:=by
 intro φ F a w h
 obtain⟨xs,hal,hz⟩:=h.al
 obtain⟨b,o,cs,T,b1,b2,b3,b4⟩:=h.rel.rel.bZ p _ hB
 obtain⟨u,hu,hc⟩:=bX.get b4 hj
 obtain⟨g1,g2⟩:=HO h.rel.rel (cells':=cells.set j (.d (.w u))) (by simp) hB (fun b' o' cs' T' q1 q2 q3=>by
  rw[b1]at q1;simp only[Zj,Zs]at q1
  obtain⟨rfl,rfl⟩:=q1
  rw[b2]at q2;cases q2
  exact q3.set hu (dh.raw _ (dA.dx hc)))
 have e0:hp (cH s.heap p (.box (cells.set j (.d (.w u)))))=ed (hp s.heap) p (XC (.box (cells.set j (.d (.w u))))):=eQ _ _ _
 refine⟨_,_,φ,F,⟨u,rfl,rfl⟩,h.of hz (by rw[e0];exact g2) (by rw[e0];exact g1) (fun t av hav=>?_) hal (fun b hb=>hb) fun b hb=> .inl hb⟩
 rw[e0];exact(h.rel.slot t av hav).mono g2
theorem Te.Nx{t:Nat}{cells:List C}{j:Nat}{c:C}(hs:lk s.aO t=XC (.one (.agg cells)))(hj:cells[j]? =XC c):
 Te n m B (fun s' l'=>∃u,s'=⟨(t,.one (.agg (cells.set j (.d (.w u)))))::s.aO,s.heap⟩∧l'=l) s l:=by
 intro φ F a w h
 obtain⟨xs,hal,hz⟩:=h.al
 obtain⟨vs,hv,hcs⟩:=h.rel.slot t _ hs
 obtain⟨u,hu,hc⟩:=bX.get hcs hj
 refine⟨_,_,φ,F,⟨u,rfl,rfl⟩,h.of hz (ix.refl _ _ _ _) h.rel.rel (fun t' av hav=>?_) hal (fun b hb=>hb) fun b hb=> .inl hb⟩
 simp only[iU]at hav
 split at hav
 ·rename_i htt;subst htt;cases hav
  exact⟨vs,hv,hcs.set hu (dh.raw _ (dA.dx hc))⟩
 ·exact h.rel.slot t' av hav
theorem SE.run{st:cq}{T:St→List (Option AE)→Prop}{K1:Out→Prop}(hg:st.guard=XG)(h:∀(o:Za) (φ:gP) (F:Nat→Prop) (a:Act) (w:Y8),zD P o.op=XC st.op→dm n φ F s a w→qD P o a φ F s w K1)
 (hT:∀out,K1 out→Te n m B T (s.apply st.dst out) l):SE P n m B [st] T s l:=by
 intro ops mask Q rest0 os k h1 h2 h3 φ F a w h5 hQ
 have hlen:=oT _ _ _ _ _ h3
 obtain⟨o,rfl⟩:=Yj.1 hlen.symm
 simp only[dL,XF,XD]at h3
 obtain⟨st',hst',_,_,hcons⟩:=h3
 cases hcons
 obtain⟨hdn,hop,hdst,_,_,hguard⟩:=gk hst'
 have hoo:ops[k]? =XC o:=by have:=h1 0 (by simp);simpa using this.symm
 have hwp:=h o φ F a w hop h5.rel Q
 show wpOps P ops Q (k::rest0) a w
 rw[wpOps_cons]
 unfold wpOp
 rw[hoo]
 cases hgo:o.guard with
 |some g=>
  rw[hgo]at hguard
  obtain⟨d,_,_,hguard⟩:=hguard
  rw[hg]at hguard;cases hguard
 |none=>
  simp only[Zm,hgo,if_true]
  refine .inl (Oper.wp_mono ?_ hwp)
  rintro a2 w2 ⟨v,rfl,⟨⟨out,φ3,F3,hK,hav,hr,hs3,hf⟩⟩⟩
  have hput:=h5.rel.put hdn hav hr hs3
  obtain⟨s2,l2,φ4,F4,hT2,h6⟩:=hT out hK φ3 F3 _ _ (by rw[hdst];exact h5.step hput hf hs3.m)
  exact hQ _ _ s2 l2 φ4 F4 hT2 h6
theorem SE.QB{st:cq}{T:St→List (Option AE)→Prop}{d t:Nat}{x':O}{cs:List C}{k:IntKind}{j:Int}{c:C}(hst:st.op= .opq (3+t) x')(hg:st.guard=XG)(hd:st.dst=XC d)(hx:s.ev x'=XC (.one (.agg cs)))
 (hi:s.eZ (.t t)=XC (.int k j)) (h0:0≤j) (h3:j<3) (hc:cs[j.toNat]? =XC c) (h:T ⟨(d,.one (.c c))::s.aO,s.heap⟩ l):SE P n m B [st] T s l:=by
 refine SE.run (K1:=fun out=>out=⟨XC (.one (.c c)),[]⟩) hg (fun o φ F a w hop hs=>?_) fun out e=>by subst e;rw[hd];exact Te.refl h
 rw[hst]at hop
 rcases LA hop with⟨h1,_⟩|⟨h1,_⟩|⟨h1,_⟩|⟨t',ty,e,x,h1,ho,hu,hce,hxo⟩
 ·omega
 ·omega
 ·omega
 ·have:t'=t:=by omega
  subst this
  have hav:=jF hs hxo hx
  obtain⟨vs,he,hcs⟩:=hav
  obtain⟨v,hv,hrep⟩:=bX.get hcs hc
  have hiv:a.eval (.tmp t')= .int k j:=ee hs (x:= .tmp t') (o:= .t t') rfl hi
  have hag:wY P e=XC Ze:=by
   rcases oF hce with⟨_,ha,_⟩|⟨k,hk,_⟩
   ·exact ha
   ·cases hk
  have hsz':sn P e=XC 1:=by
   unfold k9 at hce
   split at hce
   ·cases hce
   ·assumption
   ·cases hce
  refine cc.wp (cc.eh hs (v:=v) ?_ rfl hrep)
  refine gj (x:=Instr.index ty (a.eval x) (a.eval (.tmp t'))) (by simp only[Zb,ho]) ?_
  simp only[Instr.index,hiv,he,run_bind,asIntOf,run_pure,run_underlying hu]
  rw[if_pos ⟨h0,by omega⟩]
  simp only[run_bind,run_sizeOf hsz',YP]
  exact vd hag (by simpa using hv)
end
end Go.Fw
namespace Go.Fw
theorem IX{P:Y7}{op:Op}{f:Y9}{os:List O}(h:zD P op=XC (.call f os)):∃args ts,op= .call {callee:= .value (.func f),args:=args,argTypes:=ts}∧zS args.toList=XC os:=by
 unfold zD at h
 split at h
 ·rename_i f' args ts
  simp only[XD,jS.call.injEq]at h
  obtain⟨os',h1,rfl,rfl⟩:=h
  exact⟨args,ts,rfl,h1⟩
 all_goals exfalso
 all_goals(try(
  rw[XF]at h
  obtain⟨a,_,h2⟩:=h
  split at h2
  ·rename_i hh;cases h2;cases hh
  ·cases h2))
 all_goals(revert h)
 all_goals(first|(simp[XF,XD];done)|skip)
 all_goals(repeat' split)
 all_goals simp[XF,XD]
section
variable {P:Y7} {n m:Nat} {B:pr} {s:St} {l:List (Option AE)}
theorem ES.call{a w φ F xs dst res v H' l' φ' F' xs' w'}(h:ES n m B s l a w φ F)(hz:w8 B.Z B.F B.w φ xs F w)(hd:∀d,dst=XC d→d<n)(hf:w8 (Old φ xs) F w φ' xs' F' w')(hr:Rel φ' F' (hp H') w')(hal:pJ φ' F' w' xs' l')(hs:ix φ F (hp s.heap) w φ' F' (hp H') w')
 (hv:ec φ' F' (hp H') w' res v):ES n m B (St.apply ⟨s.aO,H'⟩ dst ⟨XC res,[]⟩) l' (a.put dst v) w' φ' F':=by
 have h1:dm n φ' F' ⟨s.aO,H'⟩ a w':=⟨h.rel.size,h.rel.defers,hr,fun t av ht=>(h.rel.slot t av ht).mono hs⟩
 have h2:=h1.put (dst:=dst) hd (out:=⟨XC res,[]⟩) (v:=v) (fun av hav=>by cases hav;exact hv) hr (ix.refl _ _ _ _)
 exact⟨h2,⟨xs',hal,hz.trans hf⟩,h.gl.trans hs.m⟩
theorem SE.enter{st:cq}{T:St→List (Option AE)→Prop}{f:Y9}{os:List O}{as0:List A1}(hst:st.op= .call f os)(hg:st.guard=XG)(he:xc s os=XC as0)
 (h:∀(φ:gP) (F:Nat→Prop) (a:Act) (w:Y8) (vs:List Value),(∀d,st.dst=XC d→d<n)→ES n m B s l a w φ F→bX (cm φ F (hp s.heap) w) as0 vs→
   Of P f vs.toArray w fun v w'=>∃s2 l2 φ' F',T s2 l2∧ES n m B s2 l2 (a.put st.dst v) w' φ' F'):SE P n m B [st] T s l:=by
 intro ops mask Q rest0 os' k h1 h2 h3 φ F a w h5 hQ
 have hlen:=oT _ _ _ _ _ h3
 obtain⟨o,rfl⟩:=Yj.1 hlen.symm
 simp only[dL,XF,XD]at h3
 obtain⟨st',hst',_,_,hcons⟩:=h3
 cases hcons
 obtain⟨hdn,hop,hdst,_,_,hguard⟩:=gk hst'
 have hoo:ops[k]? =XC o:=by have:=h1 0 (by simp);simpa using this.symm
 rw[hst]at hop
 obtain⟨args,ts,ho,hos⟩:=IX hop
 obtain⟨as1,rfl,hA⟩:=mn h5.rel hos (rQ (K:=fun x=>x=as0) he rfl)
 have hent:=h φ F a w (args.map a.eval).toList (by rw[hdst];exact hdn) h5 (by simpa using hA)
 rw[Array.toArray_toList]at hent
 show wpOps P ops Q (k::rest0) a w
 rw[wpOps_cons]
 unfold wpOp
 rw[hoo]
 cases hgo:o.guard with
 |some g=>
  rw[hgo]at hguard
  obtain⟨d,_,_,hguard⟩:=hguard
  rw[hg]at hguard;cases hguard
 |none=>
  simp only[Zm,hgo,if_true]
  refine .inl ?_
  have hrun:(Zb a.eval o).run P w=(callFunc f (args.map a.eval)).run P w:=by
   simp only[Zb,ho,resolve,Act.eval,Deferred.ofValue,run_bind,run_pure,invoke]
   have:(#[]:Array Value)++args.map a.eval++ #[]=args.map a.eval:=by simp
   rw[this]
  unfold Oper.wp
  rw[hrun]
  rcases hent with⟨hok,hc⟩|⟨v,w',hc,s2,l2,φ',F',hT,h6⟩
  ·rw[mC hok]
   refine hc.mono ?_
   rintro e w' ⟨v,rfl,s2,l2,φ',F',hT,h6⟩
   exact hQ _ _ s2 l2 φ' F' hT (by rw[←hdst];exact h6)
  ·rw[hc]
   exact hQ _ _ s2 l2 φ' F' hT (by rw[←hdst];exact h6)
theorem SE.Pd{st:cq}{T:St→List (Option AE)→Prop}{f:Y9}{os:List O}{as0:List A1}{J:AV→List (Option bw)→List (Option AE)→Prop}(hst:st.op= .call f os)(hg:st.guard=XG)(he:xc s os=XC as0)
 (hc:jI P f as0 s.heap l J) (hT:∀res H' l',J res H' l'→Te n m B T (St.apply ⟨s.aO,H'⟩ st.dst ⟨XC res,[]⟩) l'):SE P n m B [st] T s l:=by
 refine SE.enter hst hg he fun φ F a w vs hd h hA=>?_
 obtain⟨xs,hal,hz⟩:=h.al
 refine(hc φ F w xs vs h.rel.rel hal hA).mono ?_
 rintro v w' ⟨res,H',l',φ',F',xs',hJ,g1,g2,g3,g4,g5⟩
 obtain⟨s2,l2,φ2,F2,hT2,h6⟩:=hT res H' l' hJ _ _ _ _ (h.call hz hd g5 g2 g3 g4 g1)
 exact⟨s2,l2,φ2,F2,hT2,h6⟩
def pI(L:List (Value×Nat×Nat))(x y:C):Prop:=(x=y∧x.gz=Zf)∨∃u id len,x= .d (.w u)∧y= .own id 0 0 len XG∧(u,id,len)∈L
def tZ(L:List (Value×Nat×Nat)):A1→A1→Prop
 | .c x,.c y=>pI L x y
 | .agg xs,.agg ys=>bX (pI L) xs ys
 |_,_=>False
theorem pI.rep{L:List (Value×Nat×Nat)}{x y:C}(h:pI L x y){φ φ':gP}{F:Nat→Prop}{G G':eg}{w:Y8}(hL:∀p∈L,dA φ' F G' w (.own p.2.1 0 0 p.2.2 XG) p.1){v:Value}(hv:dA φ F G w x v):dA φ' F G' w y v:=by
 rcases h with⟨rfl,hd⟩|⟨u,id,len,rfl,rfl,hm⟩
 ·cases x with
  |d x=>exact hv
  |_=>cases hd
 ·have hv':dh w F (.w u) v:=hv
  cases hv'
  exact hL _ hm
theorem pI.Ln{L:List (Value×Nat×Nat)}{φ φ':gP}{F:Nat→Prop}{G G':eg}{w:Y8}(hL:∀p∈L,dA φ' F G' w (.own p.2.1 0 0 p.2.2 XG) p.1):∀{xs ys:List C} {vs:List Value},bX (pI L) xs ys→bX (dA φ F G w) xs vs→bX (dA φ' F G' w) ys vs
 |_,_,_,.nil,.nil=> .nil
 |_,_,_,.cons a ar,.cons b br=> .cons (a.rep hL b) (pI.Ln hL ar br)
theorem tZ.rep{L:List (Value×Nat×Nat)}{x y:A1}(h:tZ L x y){φ φ':gP}{F:Nat→Prop}{G G':eg}{w:Y8}(hL:∀p∈L,dA φ' F G' w (.own p.2.1 0 0 p.2.2 XG) p.1){v:Value}(hv:cm φ F G w x v):cm φ' F G' w y v:=by
 cases x with
 |c x=>cases y with
  |c y=>exact pI.rep h hL hv
  |agg=>exact h.elim
 |agg xs=>cases y with
  |c y=>exact h.elim
  |agg ys=>
   obtain⟨vs,rfl,hvs⟩:=hv
   exact⟨vs,rfl,pI.Ln hL h hvs⟩
theorem tZ.Ln{L:List (Value×Nat×Nat)}{qa qa':List A1}(h:bX (tZ L) qa qa'){φ φ':gP}{F:Nat→Prop}{G G':eg}{w:Y8}(hL:∀p∈L,dA φ' F G' w (.own p.2.1 0 0 p.2.2 XG) p.1){vs:List Value}(hv:bX (cm φ F G w) qa vs):bX (cm φ' F G' w) qa' vs:=by
 induction h generalizing vs with
 |nil=>cases hv;exact .nil
 |cons a _ ih=>cases hv with|cons b bs=>exact .cons (a.rep hL b) (ih bs)
theorem iW.own{φ F w u sz rows x}(h:iW φ F w 0 u sz rows x){φ':gP}{G:eg}{id:Nat}(hφ:φ' id=x)(hG:G id=XC (.arr 0 sz rows))(F':Nat→Prop):dA φ' F' G w (.own id 0 0 rows.length XG) u:=by
 obtain⟨A,k,rfl,hlk,hor⟩:=h.val
 refine⟨0,sz,rows,hG,YA _,A,rows.length,k,rfl,fun _=>⟨rfl,hlk,(fun c hc=>by cases hc),(fun _=>by omega),hor.imp (fun h=>h) ?_⟩⟩
 rintro⟨b,o,n,hx,hA,hn,hle⟩
 exact⟨b,o,n,by rw[hφ];exact hx,by rw[YG,YF];exact hA,hn,by rw[YG,YF];exact hle⟩
theorem iW.other{φ F w u sz rows x φ' F' w'}(h:iW φ F w 0 u sz rows x)(hs:∀b,F b→F' b∧w'.heap[b]? =w.heap[b]?)(same:∀b o,x=XC (b,o)→w'.heap[b]? =w.heap[b]?)(hsz:w.heap.size≤w'.heap.size)
 (hout:∀b o,x=XC (b,o)→¬F' b∧∀id o',φ' id≠XC (b,o')):iW φ' F' w' 0 u sz rows x:=by
 refine⟨?_,?_,fun b o hx=>?_⟩
 ·obtain⟨A,k,h1,h2,h3⟩:=h.val
  refine⟨A,k,h1,h2,h3.imp id ?_⟩
  rintro⟨b,o,n,hx,hA,hn,hle⟩
  exact⟨b,o,n,hx,hA,(oJ (same b o hx)).trans hn,hle⟩
 ·rcases h.bZ with h1|⟨b,o,cs,T,h1,h2,h3,h4,h5⟩
  ·exact .inl h1
  ·refine .inr ⟨b,o,cs,T,h1,(same b o h1).trans h2,h3,h4,fun i row hi j d hj=>?_⟩
   obtain⟨u,hu,hd⟩:=h5 i row hi j d hj
   exact⟨u,hu,hd.mono hs⟩
 ·obtain⟨h1,h2,h3,h4⟩:=h.out b o hx
  exact⟨h1,YK h2 hsz,hout b o hx⟩
theorem iW.back{φ F G w id sz rows u x}(hr:Rel φ F G w)(hG:G id=XC (.arr 0 sz rows))(hc:dA φ F G w (.own id 0 0 rows.length XG) u)(hx:φ id=x){φ':gP}(hout:∀b o,x=XC (b,o)→∀id o',φ' id≠XC (b,o')):iW φ' F w 0 u sz rows x:=by
 subst hx
 obtain⟨e',sz',rows',hg,_,A,k,c,rfl,hk⟩:=hc
 rw[hG]at hg;cases hg
 obtain⟨rfl,hlk,_,_,hor⟩:=hk rfl
 refine⟨⟨A,c,rfl,hlk,hor.imp (fun h=>h) ?_⟩,hr.bZ id _ hG,fun b o hx=>⟨YN _,hr.lt hx,fun hF=>(hr.fY b hF).2 id b o hx rfl,hout b o hx⟩⟩
 rintro⟨b,o,n,hx,hA,hn,hle⟩
 rw[YG,YF]at hA hle
 exact⟨b,o,n,hx,hA,hn,hle⟩
def Nz(a b c:Option (Nat×Nat)):gP
 |0=>a
 |1=>b
 |2=>c
 |_=>XG
theorem SE.LY{st:cq}{T:St→List (Option AE)→Prop}{f:Y9}{os:List O}{as0 as':List A1}{res:AV}{i1 i2 i3 z1 z2 z3:Nat}{u1 u2 u3:Value}{R1 R2 R3 Q1 Q2 Q3:List (List D)}(hst:st.op= .call f os)(hg:st.guard=XG)(he:xc s os=XC as0)
 (hl:bX (tZ [(u1,0,R1.length),(u2,1,R2.length),(u3,2,R3.length)]) as0 as') (h1:l[i1]? =XC (XC (u1,z1,R1))) (h2:l[i2]? =XC (XC (u2,z2,R2))) (h3:l[i3]? =XC (XC (u3,z3,R3))) (n12:i1≠i2) (n13:i1≠i3) (n23:i2≠i3)
 (hc:aW P f as' [XC (.arr 0 z1 R1),XC (.arr 0 z2 R2),XC (.arr 0 z3 R3)] res [XC (.arr 0 z1 Q1),XC (.arr 0 z2 Q2),XC (.arr 0 z3 Q3)]) (q1:Q1.length=R1.length) (q2:Q2.length=R2.length) (q3:Q3.length=R3.length) (hpl:res.plain=Zf)
 (hT:T (s.apply st.dst ⟨XC res,[]⟩) (((l.set i1 (XC (u1,z1,Q1))).set i2 (XC (u2,z2,Q2))).set i3 (XC (u3,z3,Q3)))):SE P n m B [st] T s l:=by
 refine SE.enter hst hg he fun φ F a w vs hd h hA=>?_
 obtain⟨xs,hal,hz⟩:=h.al
 have hr:=h.rel.rel
 have a1:iW φ F w 0 u1 z1 R1 (xs i1):=hal.one _ _ h1
 have a2:iW φ F w 0 u2 z2 R2 (xs i2):=hal.one _ _ h2
 have a3:iW φ F w 0 u3 z3 R3 (xs i3):=hal.one _ _ h3
 have hpc:∀id b o,Nz (xs i1) (xs i2) (xs i3) id=XC (b,o)→∃i,xs i=XC (b,o)∧(i=i1∧id=0∨i=i2∧id=1∨i=i3∧id=2):=by
  intro id b o hx
  match id,hx with
  |0,hx=>exact⟨i1,hx,.inl ⟨rfl,rfl⟩⟩
  |1,hx=>exact⟨i2,hx,.inr (.inl ⟨rfl,rfl⟩)⟩
  |2,hx=>exact⟨i3,hx,.inr (.inr ⟨rfl,rfl⟩)⟩
  |_+3,hx=>cases hx
 have hrc:Rel (Nz (xs i1) (xs i2) (xs i3)) F (hp [XC (.arr 0 z1 R1),XC (.arr 0 z2 R2),XC (.arr 0 z3 R3)]) w:=by
  refine⟨fun id bZ hb=>?_,fun id x hx=>?_,fun i j b o b' o' hi hj hbb=>?_,fun b hF=>⟨(hr.fY b hF).1,fun id b' o hi hbb=>?_⟩⟩
  ·match id,hb with
   |0,hb=>cases hb;exact a1.bZ
   |1,hb=>cases hb;exact a2.bZ
   |2,hb=>cases hb;exact a3.bZ
   |k+3,hb=>simp[hp]at hb
  ·match id,hx with
   |0,_=>rfl
   |1,_=>rfl
   |2,_=>rfl
   |k+3,hx=>cases hx
  ·subst hbb
   obtain⟨i',hi1,hi2⟩:=hpc i b o hi
   obtain⟨j',hj1,hj2⟩:=hpc j b o' hj
   have:=hal.inj i' j' b o o' hi1 hj1
   subst this
   rcases hi2 with⟨rfl,rfl⟩|⟨rfl,rfl⟩|⟨rfl,rfl⟩<;>rcases hj2 with⟨e,rfl⟩|⟨e,rfl⟩|⟨e,rfl⟩<;>first|rfl|exact(n12 e).elim|exact(n12 e.symm).elim|exact(n13 e).elim|exact(n13 e.symm).elim|exact(n23 e).elim|exact(n23 e.symm).elim
  ·subst hbb
   obtain⟨i',hi1,_⟩:=hpc id b' o hi
   exact(hal.out hi1).2.1 hF
 have hL:∀p∈[(u1,0,R1.length),(u2,1,R2.length),(u3,2,R3.length)],dA (Nz (xs i1) (xs i2) (xs i3)) F (hp [XC (.arr 0 z1 R1),XC (.arr 0 z2 R2),XC (.arr 0 z3 R3)]) w (.own p.2.1 0 0 p.2.2 XG) p.1:=by
  intro p hp'
  simp only[Yh,List.not_mem_nil,or_false]at hp'
  rcases hp' with rfl|rfl|rfl
  ·exact a1.own (id:=0) rfl rfl F
  ·exact a2.own (id:=1) rfl rfl F
  ·exact a3.own (id:=2) rfl rfl F
 refine(hc _ F w vs hrc (tZ.Ln hl hL hA)).mono ?_
 rintro v w' ⟨φ',F',g1,g2,g3,g4⟩
 have hnot:∀b,(∀i o,xs i=XC (b,o)→i≠i1∧i≠i2∧i≠i3)→b<w.heap.size→w'.heap[b]? =w.heap[b]? :=by
  intro b hb hlt
  refine g4.rest b hlt fun id o hi=>?_
  obtain⟨i,hi1,hi2⟩:=hpc id b o hi
  obtain⟨e1,e2,e3⟩:=hb i o hi1
  rcases hi2 with⟨rfl,_⟩|⟨rfl,_⟩|⟨rfl,_⟩
  ·exact e1 rfl
  ·exact e2 rfl
  ·exact e3 rfl
 have hφ:∀id b o,φ id=XC (b,o)→w'.heap[b]? =w.heap[b]? :=fun id b o hi=>hnot b (fun i o' hx=>((hal.out hx).2.2 id o hi).elim) (hr.lt hi)
 have gl:ix φ F (hp s.heap) w φ F' (hp s.heap) w':=⟨g3.fY,fun id=>gX.same rfl fun b o hi=>hφ id b o hi⟩
 have hF':∀b,F' b→F b∨(∃i o,xs i=XC (b,o)∧(i=i1∨i=i2∨i=i3))∨w.heap.size≤b:=by
  intro b hb
  rcases g4.fY b hb with h1|⟨id,o,hi⟩|h1
  ·exact .inl h1
  ·obtain⟨i,hi1,hi2⟩:=hpc id b o hi
   exact .inr (.inl ⟨i,o,hi1,hi2.imp Yz (Or.imp Yz Yz)⟩)
  ·exact .inr (.inr h1)
 have hrel:Rel φ F' (hp s.heap) w':=by
  refine⟨fun id bZ hb=>kj.mono gl rfl (fun b o hi=>hφ id b o hi) (hr.bZ id bZ hb),hr.rT,hr.inj,fun b hb=>⟨(g2.fY b hb).1,fun id b' o hi hbb=>?_⟩⟩
  subst hbb
  rcases hF' b' hb with h1|⟨i,o',hx,_⟩|h1
  ·exact(hr.fY b' h1).2 id b' o hi rfl
  ·exact(hal.out hx).2.2 id o hi
  ·have:=hr.lt hi;omega
 have k1:=g3.bZ 0
 have k2:=g3.bZ 1
 have k3:=g3.bZ 2
 obtain⟨_,k1⟩:0≤0∧(0=0→z1=z1∧R1.length≤Q1.length∧φ' 0=xs i1∧∀b o,xs i1=XC (b,o)→bsize w' b=bsize w b):=k1
 obtain⟨_,k2⟩:0≤0∧(0=0→z2=z2∧R2.length≤Q2.length∧φ' 1=xs i2∧∀b o,xs i2=XC (b,o)→bsize w' b=bsize w b):=k2
 obtain⟨_,k3⟩:0≤0∧(0=0→z3=z3∧R3.length≤Q3.length∧φ' 2=xs i3∧∀b o,xs i3=XC (b,o)→bsize w' b=bsize w b):=k3
 obtain⟨_,_,k1,m1⟩:=k1 rfl
 obtain⟨_,_,k2,m2⟩:=k2 rfl
 obtain⟨_,_,k3,m3⟩:=k3 rfl
 have own2:∀{u sz R Q x id},iW φ F w 0 u sz R x→φ' id=x→Q.length=R.length→hp [XC (.arr 0 z1 Q1),XC (.arr 0 z2 Q2),XC (.arr 0 z3 Q3)] id=XC (.arr 0 sz Q)→(∀b o,x=XC (b,o)→bsize w' b=bsize w b)→
  dA φ' F' (hp [XC (.arr 0 z1 Q1),XC (.arr 0 z2 Q2),XC (.arr 0 z3 Q3)]) w' (.own id 0 0 Q.length XG) u:=by
  intro u sz R Q x id ha hx hq hG hb
  obtain⟨A,k,rfl,hlk,hor⟩:=ha.val
  refine⟨0,sz,Q,hG,YA _,A,R.length,k,rfl,fun _=>⟨hq.symm,by omega,(fun c hc=>by cases hc),(fun _=>by omega),hor.imp (fun h=>h) ?_⟩⟩
  rintro⟨b,o,n,hxx,hA,hn,hle⟩
  exact⟨b,o,n,by rw[hx];exact hxx,by rw[YG,YF];exact hA,(hb b o hxx).trans hn,by rw[YG,YF];exact hle⟩
 have hout:∀i b o,xs i=XC (b,o)→∀id o',φ id≠XC (b,o'):=fun i b o hx=>(hal.out hx).2.2
 have b1:=iW.back (φ':=φ) g2 (id:=0) rfl (own2 a1 k1 q1 rfl m1) k1 (hout i1)
 have b2:=iW.back (φ':=φ) g2 (id:=1) rfl (own2 a2 k2 q2 rfl m2) k2 (hout i2)
 have b3:=iW.back (φ':=φ) g2 (id:=2) rfl (own2 a3 k3 q3 rfl m3) k3 (hout i3)
 have l1:i1<l.length:=(XJ.1 h1).1
 have l2:i2<l.length:=(XJ.1 h2).1
 have l3:i3<l.length:=(XJ.1 h3).1
 have hal':pJ φ F' w' xs (((l.set i1 (XC (u1,z1,Q1))).set i2 (XC (u2,z2,Q2))).set i3 (XC (u3,z3,Q3))):=by
  refine⟨fun i e hi=>?_,hal.inj,fun i b o hi=>?_⟩
  ·by_cases c3:i=i3
   ·subst c3
    rw[XK (by simpa using l3)]at hi;cases hi;exact b3
   ·rw[XL (Zr c3)]at hi
    by_cases c2:i=i2
    ·subst c2
     rw[XK (by simpa using l2)]at hi;cases hi;exact b2
    ·rw[XL (Zr c2)]at hi
     by_cases c1:i=i1
     ·subst c1
      rw[XK l1]at hi;cases hi;exact b1
     ·rw[XL (Zr c1)]at hi
      refine(hal.one i e hi).other g3.fY (fun b o hx=>hnot b (fun i' o' hx'=>?_) (hal.out hx).1) g4.size fun b o hx=>⟨fun hFb=>?_,hout i b o hx⟩
      ·have:=hal.inj i i' b o o' hx hx'
       subst this;exact⟨c1,c2,c3⟩
      ·rcases hF' b hFb with h0|⟨i',o',hx',hh⟩|h0
       ·exact(hal.out hx).2.1 h0
       ·have:=hal.inj i i' b o o' hx hx'
        subst this
        rcases hh with hh|hh|hh
        ·exact c1 hh
        ·exact c2 hh
        ·exact c3 hh
       ·have:=(hal.out hx).1;omega
  ·obtain⟨e,he⟩:=hal.rT i b o hi
   by_cases c3:i=i3
   ·subst c3;exact⟨_,XK (by simpa using l3)⟩
   ·rw[XL (Zr c3)]
    by_cases c2:i=i2
    ·subst c2;exact⟨_,XK (by simpa using l2)⟩
    ·rw[XL (Zr c2)]
     by_cases c1:i=i1
     ·subst c1;exact⟨_,XK l1⟩
     ·rw[XL (Zr c1)];exact⟨e,he⟩
 have hfz:w8 (Old φ xs) F w φ xs F' w':=by
  refine⟨g4.size,fun b hb hn=>hnot b (fun i o hx=>(hn (.inr ⟨i,o,hx⟩)).elim) hb,fun b hb=> .inl hb,fun b hb=>?_,g4.io⟩
  rcases hF' b hb with h0|⟨i,o,hx,_⟩|h0
  ·exact .inl h0
  ·exact .inr (.inl (.inr ⟨i,o,hx⟩))
  ·exact .inr (.inr h0)
 exact⟨_,_,φ,F',hT,h.call hz hd hfz hrel hal' gl (ec.plain hpl g1)⟩
end
end Go.Fw
namespace Go.Fw
def Hc{α:Type}(l:List α)(j1 j2 j3:Nat)(a b c:α):List α:=((l.set j1 a).set j2 b).set j3 c
theorem Hb{α:Type}{l:List α}{j1 j2 j3:Nat}(a b c:α)(h1:j1<l.length)(h2:j2<l.length)(h3:j3<l.length)(n12:j1≠j2)(n13:j1≠j3)(n23:j2≠j3)(j:Nat):
 (Hc l j1 j2 j3 a b c)[j]? =if j=j1 then XC a else if j=j2 then XC b else if j=j3 then XC c else l[j]? :=by
 unfold Hc
 by_cases c3:j=j3
 ·subst c3
  rw[XK (by simpa using h3),if_neg (Zr n13),if_neg (Zr n23),if_pos rfl]
 ·rw[XL (Zr c3)]
  by_cases c2:j=j2
  ·subst c2
   rw[XK (by simpa using h2),if_neg (Zr n12),if_pos rfl]
  ·rw[XL (Zr c2)]
   by_cases c1:j=j1
   ·subst c1
    rw[XK h1,if_pos rfl]
   ·rw[XL (Zr c1),if_neg c1,if_neg c2,if_neg c3]
section
variable {P:Y7} {n m:Nat} {B:pr} {s:St} {l:List (Option AE)}
end
end Go.Fw
namespace Go.Fw
section
variable {P:Y7} {n m:Nat} {B:pr} {s:St} {l:List (Option AE)}
theorem SE.pc{ops:List cq}{T:St→List (Option AE)→Prop}{Rn:St→Prop}{Q:XT→St→Prop}(h:sK P n m (.reg ops) [] (sM n m Rn Q) s)(hn:∀s',Rn s'→Te n m B T s' l):SE P n m B ops T s l:=by
 refine SE.ops (FM h) ?_
 rintro s' ⟨s2,hv,hR⟩
 refine(Te.view hv).trans ?_
 rintro _ _ ⟨rfl,rfl⟩
 exact hn _ hR
theorem SE.mv{st:cq}{T:St→List (Option AE)→Prop}{d d':Nat}{v:AV}(hst:st.op= .mv (.t d'))(hg:st.guard=XG)(hd:st.dst=XC d)(hs:lk s.aO d'=XC v)
 (h:T ⟨(d,v)::s.aO,s.heap⟩ l):SE P n m B [st] T s l:=by
 refine SE.ops (K1:=fun s'=>s'=⟨(d,v)::s.aO,s.heap⟩) ?_ (fun s' e=>by subst e;exact Te.refl h)
 simp only[gF,hg,hst,AN,jE,eN,dp,St.ev,hs,hd,St.apply]
 rfl
theorem VE.fin{pT:List RV}{J:AV→List (Option bw)→List (Option AE)→Prop}{s':St}(hv:View n m s s')(h:mD s' pT fun r=>J (bJ r) s'.heap l):VE P n m B .ret (zr pT J) s l:=by
 refine VE.tell (Te.view hv) ?_
 rintro _ _ ⟨rfl,rfl⟩
 exact VE.ret h
theorem xN{p:Nat→St→Prop}:∀(i:Nat) (s:St),False→p i s:=fun _ _ h=>h.elim
end
def opsOf:AC→List cq
 | .reg l=>l
 | .regd l=>l
 |_=>[]
end Go.Fw
namespace Go.Fw
section
variable {P:Y7} {n m:Nat} {B:pr} {s:St} {l:List (Option AE)}
theorem gY.le{m m' φ F G w φ' F' G' w'}(h:gY m' φ F G w φ' F' G' w')(hm:m≤m'):gY m φ F G w φ' F' G' w':=⟨h.fY,fun id hi=>h.bZ id (YK hi hm)⟩
theorem SE.raw{st:cq}{T:St→List (Option AE)→Prop}{x' y':O}{id ep row z:Nat}{rows:List (List D)}{r ds:List D}{v:A1}(hst:st.op= .store z x' y')(hg:st.guard=XG)(hd:st.dst=XG)
 (e1:s.e9 x'=XC (.pe id ep row 0)) (e2:hp s.heap id=XC (.arr ep z rows)) (e3:rows[row]? =XC r) (e4:s.ev y'=XC (.one v)) (e5:v.cells=ds.map .d) (e6:ds.length=z) (e7:0<z) (h:T ⟨s.aO,cH s.heap id (.arr ep z (rows.set row ds))⟩ l):SE P n m B [st] T s l:=by
 refine SE.run (K1:=fun out=>out=⟨XG,[(id,.arr ep z (rows.set row ds))]⟩) hg (fun o φ F a w hop hs=>?_) fun out e=>by subst e;rw[hd];exact Te.refl h
 rw[hst]at hop
 obtain⟨t,x,y,q1,q2,q3,q4⟩:=Fs hop
 exact cc.wp (Cd hs q1 q2 q3 q4 e1 e2 e3 e4 e5 e6 e7 rfl)
theorem VE.Pa{R:RE}{steps:List cq}{st:cq}{K1:St→Prop}(hd:st.dst=XG)(hall:∀j,j<steps.length→j∈st.fD)(hne:0<steps.length)
 (hv:w9 P s.heap steps 0 s.aO [] K1) (hT:∀s',K1 s'→Te n m B (SE P n m B [st] (R .normal)) s' l):VE P n m B (.regd (steps++[st])) R s l:=by
 intro c hc φ F a w hs
 cases c with
 |region id ops draw=>
  cases draw with
  |false=>
   simp only[dC,AC.er,Zd,if_false,XD]at hc
   obtain⟨_,_,hc⟩:=hc;cases hc
  |true=>
   simp only[dC,AC.er,if_true,pG,XF]at hc
   obtain⟨steps',hsteps,hc⟩:=hc
   split at hc
   ·rename_i hB
    cases hc
    simp only[Zg]at hB
    refine wp_region_any hB.2 ?_
    have hdr:=Bq hsteps hB.1
    have hsz:ops.size≠0:=by have:=hdr.len;simp at this;omega
    obtain⟨ops0,o,rfl⟩:=Array.eq_push_of_size_ne_zero hsz
    have hlen:steps.length=ops0.size:=by have:=hdr.len;simp at this;exact this
    have stp0:ix φ F (hp s.heap) w φ F (hp s.heap) {w with drawn:=w.drawn+1}:=⟨fun b hb=>⟨hb,rfl⟩,fun id=>gX.same rfl fun _ _ _=>rfl⟩
    have fr0:Fr φ F w φ F {w with drawn:=w.drawn+1}:=⟨YA _,fun _ _ _=>rfl,fun id b o hi=> .inl ⟨id,o,hi⟩,fun b hb=> .inl hb,⟨rfl,rfl⟩⟩
    have hs1:dm n φ F s a {w with drawn:=w.drawn+1}:=
     ⟨hs.rel.size,hs.rel.defers,⟨fun id bZ hb=>kj.mono stp0 rfl (fun _ _ _=>rfl) (hs.rel.rel.bZ id bZ hb),hs.rel.rel.rT,hs.rel.rel.inj,hs.rel.rel.fY⟩,fun t av ht=>(hs.rel.slot t av ht).mono stp0⟩
    have hs2:=hs.step hs1 fr0 stp0.m
    rw[Y6,show YW (ops0.size+1) Ze=(YW ops0.size Ze).push Ze by apply Y5;intro j;rw[YU,YY,YY];simp only[Array.size_replicate];split<;>split<;>(try split)<;>first|rfl|omega]
    refine BU (n:=n) hdr hd (fun j hj=>hall j (by omega)) (by omega) ops0.size _ a _ (by simp) (by simp[Array.count_replicate]) (fun i x hi=>by rw[YY]at hi;split at hi<;>cases hi) ?_
    refine lr (m:=m) (hdr.pop hd) hv hs1 fun a' w' hp'=>?_
    obtain⟨s',φ',F',hK,q2,q3,q4⟩:=hp'
    obtain⟨s2,l2,φ2,F2,hvs,h5⟩:=hT s' hK φ' F' a' w' (hs2.step q2 q3 q4)
    obtain⟨_,c2⟩:=ss _ _ steps.length _ _ _ hsteps (by simp;omega)
    rw[Ye]at c2
    have hdrop:(ops0.push o).toList.drop steps.length=[o]:=by rw[Array.toList_push,hlen,←Y0,Ye]
    rw[hdrop,YM]at c2
    have:=hvs (ops0.push o) _ (XE n m B R) [] [o] steps.length (fun j hj=>by
     have:j=0:=by simpa using hj
     subst this;rw[YF,hlen];simp) (by simp;omega) c2 φ2 F2 a' w' h5 fun a2 w2 s3 l3 φ3 F3 hR h6=>⟨s3,l3,φ3,F3,hR,h6⟩
    show wpOp P (ops0.push o) (XE n m B R) ops0.size (fun a w=>XE n m B R .normal a w) a' w'
    rw[hlen]at this
    rw[X8]at this
    have e:X5 ops0.size [o].length=[ops0.size]:=rfl
    rw[e,wpOps_cons]at this
    exact this
   ·cases hc
 |seq=>simp only[dC,AC.er,XF,XD]at hc;obtain⟨_,_,_,_,hc⟩:=hc;cases hc
 |cond=>simp only[dC,AC.er,XF,XD]at hc;obtain⟨_,_,_,_,_,_,hc⟩:=hc;cases hc
 |block=>simp only[dC,AC.er,XD]at hc;obtain⟨_,_,hc⟩:=hc;cases hc
 |loop=>simp only[dC,AC.er,XD]at hc;obtain⟨_,_,hc⟩:=hc;cases hc
 |_=>cases hc
end
end Go.Fw
namespace Go.Fw
theorem NP{ρ ρ':Nat→Nat}{H H' G G':eg}{φ φs':gP}{F F':Nat→Prop}{w w':Y8}{xs xs':Nat→Option (Nat×Nat)}{l l':List (Option AE)}(hr:Rel φ F G w)(hal:pJ φ F w xs l)(he:KJ ρ H G)
 (hr':Rel φs' F' H' w') (hal':pJ φs' F' w' xs' l') (hs:ix (down ρ H φ) F H w φs' F' H' w') (hf:w8 (Old (down ρ H φ) xs) F w φs' xs' F' w')
 (hρ:∀k,H k≠XG→ρ' k=ρ k) (hinj:∀i j,H' i≠XG→H' j≠XG→ρ' i=ρ' j→i=j)
 (hnew:∀k,H' k≠XG→H k=XG→G (ρ' k)=XG)
 (hG1:∀k bZ,H' k=XC bZ→G' (ρ' k)=XC (bZ.ff ρ')) (hG2:∀i,(∀k,H' k≠XG→ρ' k≠i)→G' i=G i):
 Rel (upφ ρ' H' φs' φ) F' G' w'∧ix φ F G w (upφ ρ' H' φs' φ) F' G' w'∧pJ (upφ ρ' H' φs' φ) F' w' xs' l'∧w8 (Old φ xs) F w (upφ ρ' H' φs' φ) xs' F' w'∧
  (∀k,H' k≠XG→upφ ρ' H' φs' φ (ρ' k)=φs' k):=by
 have hdom:∀k,H k≠XG→H' k≠XG:=by
  intro k hk hn
  have:=hs.bZ k
  cases hH:H k with
  |none=>exact hk hH
  |some b=>rw[hH,hn]at this;cases b<;>exact this.elim
 have hin:∀k,H' k≠XG→upφ ρ' H' φs' φ (ρ' k)=φs' k:=fun k hk=>upφ_in hinj hk
 have hother:∀i b o,(∀k,H' k≠XG→ρ' k≠i)→φ i=XC (b,o)→w'.heap[b]? =w.heap[b]? :=by
  intro i b o hi hφ
  refine hf.rest b (hr.lt hφ) ?_
  rintro(⟨k,o',hk⟩|⟨k,o',hk⟩)
  ·obtain⟨l,h1⟩:=eU hk
   have:=hr.inj i (ρ k) b o b o' hφ h1 rfl
   exact hi k (hdom k l) ((hρ k l).trans this.symm)
  ·exact(hal.out hk).2.2 i o hφ
 have hOld:∀b,Old (down ρ H φ) xs b→Old φ xs b:=by
  rintro b (⟨k,o,hk⟩|h)
  ·exact .inl ⟨_,o,(eU hk).2⟩
  ·exact .inr h
 have gl:ix φ F G w (upφ ρ' H' φs' φ) F' G' w':=by
  refine⟨hs.fY,fun i=>?_⟩
  by_cases hi:∃k,H' k≠XG∧ρ' k=i
  ·obtain⟨k,hk,rfl⟩:=hi
   cases hH':H' k with
   |none=>exact(hk hH').elim
   |some blk'=>
    rw[hG1 k blk' hH']
    cases hH:H k with
    |none=>rw[hnew k hk hH];trivial
    |some bZ=>
     have hl:H k≠XG:=by simp[hH]
     have hb:=hs.bZ k
     rw[hH,hH']at hb
     have hGk:=he.at_ k bZ hH
     rw[←hρ k hl]at hGk
     rw[hGk]
     cases bZ<;>cases blk'<;>simp only[gX,bw.ff]at hb⊢
     ·rw[fF hl,←hρ k hl]at hb
      exact⟨(hin k hk).trans hb.1,by simpa using hb.2.1,by simpa using hb.2.2⟩
     ·refine⟨hb.1,fun h0=>?_⟩
      obtain⟨a1,a2,a3,a4⟩:=hb.2 h0
      rw[fF hl,←hρ k hl]at a3 a4
      exact⟨a1,a2,(hin k hk).trans a3,a4⟩
     ·rw[hin k hk,hb,fF hl,hρ k hl]
  ·have hi':∀k,H' k≠XG→ρ' k≠i:=fun k hk he=>hi ⟨k,hk,he⟩
   rw[hG2 i hi']
   exact gX.same (upφ_out hi') fun b o hb=>hother i b o hi' hb
 refine⟨⟨fun i bZ hi=>?_,fun i x hx=>?_,fun i j b o b' o' hi hj hb=>?_,fun b hb=>⟨(hr'.fY b hb).1,fun i b' o hi=>?_⟩⟩,gl,⟨fun i e hi=>?_,hal'.inj,hal'.rT⟩,⟨hf.size,fun b hb hn=>hf.rest b hb fun ho=>hn (hOld b ho),fun b ho=>?_,fun b hb=>(hf.fY b hb).imp id (Or.imp (hOld b) id),hf.io⟩,hin⟩
 ·by_cases hk:∃k,H' k≠XG∧ρ' k=i
  ·obtain⟨k,hk,rfl⟩:=hk
   cases hH':H' k with
   |none=>exact(hk hH').elim
   |some blk'=>
    have:=hG1 k blk' hH'
    rw[hi]at this;cases this
    have hB:=hr'.bZ k blk' hH'
    cases blk' with
    |box cells=>
     obtain⟨b,o,cs,T,h1,h2,h4,h3⟩:=hB
     exact⟨b,o,cs,T,(hin k hk).trans h1,h2,by simpa using h4,by rw[XM];exact bX.jN h3 fun _ _ hb=>dA.up hG1 hin hb⟩
    |arr e sz rows=>
     simp only[bw.ff,kj]at hB⊢
     rw[hin k hk];exact hB
    |map ents=>
     obtain⟨b,es,clock,h1,h2,h4,h3⟩:=hB
     exact⟨b,es,clock,(hin k hk).trans h1,h2,h4,bX.jN h3 fun _ _ hm=>⟨hm.1,cm.up hG1 hin hm.2⟩⟩
  ·have hi':∀k,H' k≠XG→ρ' k≠i:=fun k hk0 he0=>hk ⟨k,hk0,he0⟩
   rw[hG2 i hi']at hi
   exact kj.mono gl (upφ_out hi') (fun b o hb=>hother i b o hi' hb) (hr.bZ i bZ hi)
 ·by_cases hk:∃k,H' k≠XG∧ρ' k=i
  ·obtain⟨k,hk,rfl⟩:=hk
   cases hH':H' k with
   |none=>exact(hk hH').elim
   |some blk'=>rw[hG1 k blk' hH'];rfl
  ·have hi':∀k,H' k≠XG→ρ' k≠i:=fun k hk0 he0=>hk ⟨k,hk0,he0⟩
   rw[upφ_out hi']at hx
   rw[hG2 i hi'];exact hr.rT i x hx
 ·subst hb
  have mixed:∀k i o o',H' k≠XG→(∀k,H' k≠XG→ρ' k≠i)→φs' k=XC (b,o)→φ i=XC (b,o')→False:=by
   intro k i o o' hk hi' h1 h2
   rcases hf.own b (.inl ⟨k,o,h1⟩)with(⟨k0,o0,h0⟩|⟨k0,o0,h0⟩)|h0
   ·obtain⟨l,h3⟩:=eU h0
    have:=hr.inj i (ρ k0) b o' b o0 h2 h3 rfl
    exact hi' k0 (hdom k0 l) ((hρ k0 l).trans this.symm)
   ·exact(hal.out h0).2.2 i o' h2
   ·have:=hr.lt h2;omega
  by_cases hki:∃k,H' k≠XG∧ρ' k=i<;>by_cases hkj:∃k,H' k≠XG∧ρ' k=j
  ·obtain⟨k,hk,rfl⟩:=hki
   obtain⟨l,hl,rfl⟩:=hkj
   rw[hin k hk]at hi;rw[hin l hl]at hj
   rw[hr'.inj k l b o b o' hi hj rfl]
  ·obtain⟨k,hk,rfl⟩:=hki
   have hj':∀k,H' k≠XG→ρ' k≠j:=fun k hk he=>hkj ⟨k,hk,he⟩
   rw[hin k hk]at hi;rw[upφ_out hj']at hj
   exact(mixed k j o o' hk hj' hi hj).elim
  ·obtain⟨l,hl,rfl⟩:=hkj
   have hi':∀k,H' k≠XG→ρ' k≠i:=fun k hk he=>hki ⟨k,hk,he⟩
   rw[hin l hl]at hj;rw[upφ_out hi']at hi
   exact(mixed l i o' o hl hi' hj hi).elim
  ·have hi':∀k,H' k≠XG→ρ' k≠i:=fun k hk he=>hki ⟨k,hk,he⟩
   have hj':∀k,H' k≠XG→ρ' k≠j:=fun k hk he=>hkj ⟨k,hk,he⟩
   rw[upφ_out hi']at hi;rw[upφ_out hj']at hj
   exact hr.inj i j b o b o' hi hj rfl
 ·by_cases hki:∃k,H' k≠XG∧ρ' k=i
  ·obtain⟨k,hk,rfl⟩:=hki
   rw[hin k hk]at hi
   exact(hr'.fY b hb).2 k b' o hi
  ·have hi':∀k,H' k≠XG→ρ' k≠i:=fun k hk he=>hki ⟨k,hk,he⟩
   rw[upφ_out hi']at hi
   intro hbb
   subst hbb
   rcases hf.fY b' hb with h0|(⟨k0,o0,h0⟩|⟨k0,o0,h0⟩)|h0
   ·exact(hr.fY b' h0).2 i b' o hi rfl
   ·obtain⟨l,h3⟩:=eU h0
    have:=hr.inj i (ρ k0) b' o b' o0 hi h3 rfl
    exact hi' k0 (hdom k0 l) ((hρ k0 l).trans this.symm)
   ·exact(hal.out h0).2.2 i o hi
   ·have:=hr.lt hi;omega
 ·have ho:=hal'.one i e hi
  refine⟨ho.val,ho.bZ,fun b o hx=>?_⟩
  obtain⟨q1,q2,q3,q4⟩:=ho.out b o hx
  refine⟨q1,q2,q3,fun id o' hid=>?_⟩
  by_cases hki:∃k,H' k≠XG∧ρ' k=id
  ·obtain⟨k,hk,rfl⟩:=hki
   rw[hin k hk]at hid
   exact q4 k o' hid
  ·have hi':∀k,H' k≠XG→ρ' k≠id:=fun k hk he=>hki ⟨k,hk,he⟩
   rw[upφ_out hi']at hid
   rcases hf.own b (.inr ⟨i,o,hx⟩)with(⟨k0,o0,h0⟩|⟨k0,o0,h0⟩)|h0
   ·obtain⟨l,h3⟩:=eU h0
    have:=hr.inj id (ρ k0) b o' b o0 hid h3 rfl
    exact hi' k0 (hdom k0 l) ((hρ k0 l).trans this.symm)
   ·exact(hal.out h0).2.2 id o' hid
   ·have:=hr.lt hid;omega
 ·rcases ho with⟨i,o,hi⟩|ho
  ·by_cases hki:∃k,H' k≠XG∧ρ' k=i
   ·obtain⟨k,hk,rfl⟩:=hki
    rw[hin k hk]at hi
    exact(hf.own b (.inl ⟨k,o,hi⟩)).imp (hOld b) id
   ·have hi':∀k,H' k≠XG→ρ' k≠i:=fun k hk he=>hki ⟨k,hk,he⟩
    rw[upφ_out hi']at hi
    exact .inl (.inl ⟨i,o,hi⟩)
  ·exact(hf.own b (.inr ho)).imp (hOld b) id
section
variable {P:Y7} {n m:Nat} {B:pr} {s:St} {l:List (Option AE)}
theorem SE.MQ{st:cq}{T:St→List (Option AE)→Prop}{f:Y9}{os:List O}{as0 as':List A1}{H:List (Option bw)}{J:AV→List (Option bw)→List (Option AE)→Prop}(ρ:List Nat)(hst:st.op= .call f os)(hg:st.guard=XG)(he:xc s os=XC as0)
 (has:as0=as'.map (A1.ff (rn ρ s.heap.length))) (hlive:jf (hp H) as') (hρ:ρ.length=H.length) (hnd:ρ.Nodup) (hH:mJ s.heap (rn ρ s.heap.length) (hp H) 0 H) (hc:jI P f as' H l J)
 (hT:∀res H' l',J res H' l'→Te n m B T (s.apply st.dst ⟨XC (res.ff (rn ρ s.heap.length)),e8 0 H' (rn ρ s.heap.length)⟩) l'):SE P n m B [st] T s l:=by
 refine SE.enter hst hg he fun φ F a w vs hd h hA=>?_
 obtain⟨xs,hal,hz⟩:=h.al
 have hr:=h.rel.rel
 have hg:=lv hH
 have hfull:∀k,k<H.length→hp H k≠XG:=fun k hk=>by obtain⟨b,q1,_⟩:=hg k hk;rw[q1];simp
 have hltH:∀{H:List (Option bw)} {k:Nat},hp H k≠XG→k<H.length:=by
  intro H k hk
  by_cases h:k<H.length
  ·exact h
  ·exact(hk (by simp[hp,XU (by omega:H.length≤k)])).elim
 have hHb:∀k bZ,hp H k=XC bZ→hp s.heap (rn ρ s.heap.length k)=XC (bZ.ff (rn ρ s.heap.length))∧bZ.live (hp H):=fun k bZ hb=>by
  obtain⟨b,q1,q2,q3⟩:=hg k (hltH (by rw[hb];simp))
  rw[q1]at hb;cases hb
  simp only[YM]at q2
  exact⟨q2,q3⟩
 have hnd':∀(i j k:Nat),ρ[i]? =XC k→ρ[j]? =XC k→i=j:=fun i j k hi hj=>(List.getElem?_inj (XJ.1 hi).1 hnd).1 (hi.trans hj.symm)
 have hin':∀k,k<ρ.length→ρ[k]? =XC (rn ρ s.heap.length k):=by
  intro k hk;unfold rn;rw[XN hk]
 have hout:∀k,ρ.length≤k→rn ρ s.heap.length k=s.heap.length+(k-ρ.length):=by
  intro k hk;unfold rn;rw[XU hk]
 have emb:KJ (rn ρ s.heap.length) (hp H) (hp s.heap):=by
  refine⟨fun k bZ hk=>(hHb k bZ hk).1,fun i j hi hj he=>?_,fun k bZ hk=>(hHb k bZ hk).2⟩
  have h1:=hltH hi
  have h2:=hltH hj
  exact hnd' i j _ (hin' i (by omega)) (he▸hin' j (by omega))
 have hd':=Rel.down emb hr
 have hA':bX (cm (down (rn ρ s.heap.length) (hp H) φ) F (hp H) w) as' vs:=by
  rw[has]at hA
  exact bX.l8 hA fun c hc b hb=>cm.down emb (lx hlive c hc) hb
 have hald:pJ (down (rn ρ s.heap.length) (hp H) φ) F w xs l:=⟨fun i e hi=>by
  have ho:=hal.one i e hi
  refine⟨ho.val,ho.bZ,fun b o hx=>?_⟩
  obtain⟨q1,q2,q3,q4⟩:=ho.out b o hx
  exact⟨q1,q2,q3,fun id o' hid=>q4 _ o' (eU hid).2⟩,hal.inj,hal.rT⟩
 refine(hc _ F w xs vs hd' hald hA').mono ?_
 rintro v w' ⟨res,H',l',φs',F',xs',hJ,hv,hr',hal',hs,hf⟩
 have hlt:∀k,k<ρ.length→rn ρ s.heap.length k<s.heap.length:=by
  intro k hk
  cases hk':hp H k with
  |none=>exact(hfull k (by omega) hk').elim
  |some bZ=>
   have:=(hHb k bZ hk').1
   exact hltH (by rw[this];simp)
 have hinj:∀i j,hp H' i≠XG→hp H' j≠XG→rn ρ s.heap.length i=rn ρ s.heap.length j→i=j:=by
  intro i j _ _ he
  by_cases hi:i<ρ.length<;>by_cases hj:j<ρ.length
  ·exact hnd' i j _ (hin' i hi) (he▸hin' j hj)
  ·have:=hlt i hi;rw[he,hout j (by omega)]at this;omega
  ·have:=hlt j hj;rw[←he,hout i (by omega)]at this;omega
  ·rw[hout i (by omega),hout j (by omega)]at he;omega
 obtain⟨w1,w2⟩:=ka (rn ρ s.heap.length) H' 0 s.heap (by simpa using hinj)
 simp only[YM]at w1 w2
 obtain⟨g1,g2,g3,g4,g5⟩:=NP (ρ':=rn ρ s.heap.length) (G':=hp (fE s.heap (e8 0 H' (rn ρ s.heap.length)))) hr hal emb hr' hal' hs hf (fun _ _=>rfl) hinj
  (fun k hk hn=>by
    by_cases hkl:k<ρ.length
    ·exact(hfull k (by omega) hn).elim
    ·rw[hout k (by omega)];simp[hp])
  w1 w2
 obtain⟨s2,l2,φ2,F2,hT2,h6⟩:=hT res H' l' hJ _ _ _ _ (h.call hz hd g4 g1 g3 g2 (ec.up w1 g5 hv))
 exact⟨s2,l2,φ2,F2,hT2,h6⟩
end
end Go.Fw
namespace Go.Fw
def B9:List (Nat×AV)→List (Nat×AV)→Prop
 |[],_=>True
 |(t,v)::r,sl=>lk sl t=XC v∧B9 r sl
theorem ym:∀{a b:List (Nat×AV)},B9 a b→∀t av,lk a t=XC av→lk b t=XC av
 |[],_,_,t,av,h=>by cases h
 |(k,v)::r,b,h,t,av,ht=>by
  rw[iU]at ht
  split at ht
  ·rename_i e;cases ht;rw[e];exact h.1
  ·exact ym h.2 t av ht
def Kz(N q gf jm e len z k:Nat)(R0:List (List D))(um:Value)(T:St→List (Option AE)→Prop)(s':St)(l':List (Option AE)):Prop:=
 ∃(row':List D) (mc':List C) (sl':List (Nat×AV)),hp s'.heap N=XC (.box (row'.map C.d))∧row'.length=z∧hp s'.heap gf=XC (.box mc')∧mc'[jm]? =XC (.d (.w um))∧hp s'.heap q=XC (.arr (e+1) z [])∧
  B9 sl' s'.aO∧(s'.heap.take N).all (nO N)=Zf∧sl'.all (fun x=>x.2.below N)=Zf∧
  T ⟨sl',cH (cH (s'.heap.take N) q (.arr (e+2) z (R0.set k row'))) gf (.box (mc'.set jm (.own q (e+2) 0 len XG)))⟩ l'
section
variable {P:Y7} {n m:Nat} {B:pr} {s:St} {l:List (Option AE)}
theorem ES.PJ{a w φ F}{t gf q e len k z jm:Nat}{mc:List C}{R0:List (List D)}{row:List D}(h:ES n m B s l a w φ F)(hs:lk s.aO t=XC (.one (.c (.pe q e k 0))))
 (hM:hp s.heap gf=XC (.box mc)) (hjm:mc[jm]? =XC (.own q e 0 len XG)) (hQ:hp s.heap q=XC (.arr e z R0)) (hrow:R0[k]? =XC row) (hm:m≤s.heap.length):
 ∃um B' φ1,ES n (s.heap.length+1) B' ⟨(t,.one (.c (.pt s.heap.length 0)))::s.aO,cH (cH (cH s.heap gf (.box (mc.set jm (.d (.w um))))) q (.arr (e+1) z [])) s.heap.length (.box (row.map C.d))⟩ l a w φ1 F∧
  ∀T s' l' a' w' φ' F',ES n (s.heap.length+1) B' s' l' a' w' φ' F'→Kz s.heap.length q gf jm e len z k R0 um T s' l'→∃s2 l2 φ2 F2,T s2 l2∧ES n m B s2 l2 a' w' φ2 F2:=by
 obtain⟨xs,hal,hz⟩:=h.al
 have hr:=h.rel.rel
 have hmq:gf≠q:=fun e=>by subst e;rw[hM]at hQ;cases hQ
 have hqN:q≠s.heap.length:=fun e=>by subst e;rw[iY]at hQ;cases hQ
 have hmN:gf≠s.heap.length:=fun e=>by subst e;rw[iY]at hM;cases hM
 have hltN:∀id,hp s.heap id≠XG→id<s.heap.length:=fun id hh=>by
  by_cases h1:id<s.heap.length
  ·exact h1
  ·exact(hh (by simp[hp,XU (by omega:s.heap.length≤id)])).elim
 obtain⟨e',z',R',hG',_,A,hv,hAk⟩:=h.rel.slot t _ hs
 rw[hQ]at hG';cases hG'
 obtain⟨b,o,hφq,hklt,rfl⟩:=hAk rfl
 obtain⟨bm,om,mcs,mT,p1,p2,p3,p4⟩:=hr.bZ gf _ hM
 rcases hr.bZ q _ hQ with⟨q1,_⟩|⟨b',o',cs,cT,q1,q2,q3,q4,q5⟩
 ·rw[hφq]at q1;cases q1
 rw[hφq]at q1;simp only[Zj,Zs]at q1
 obtain⟨rfl,rfl⟩:=q1
 have hrz:row.length=z:=q4 row (XV hrow)
 have hmul:k*z+z≤R0.length*z:=by
  have:=YH z hklt
  rw[YJ]at this;exact this
 obtain⟨um,hum,hcum⟩:=bX.get p4 hjm
 have hjl:jm<mc.length:=(XJ.1 hjm).1
 let N:=s.heap.length
 let φ1:gP:=ed (ed φ q XG) N (XC (b,o+k*z))
 let H1:List (Option bw):=cH (cH (cH s.heap gf (.box (mc.set jm (.d (.w um))))) q (.arr (e+1) z [])) s.heap.length (.box (row.map C.d))
 have e1:hp H1=ed (ed (ed (hp s.heap) gf (XC (.box (mc.set jm (.d (.w um)))))) q (XC (.arr (e+1) z []))) N (XC (.box (row.map C.d))):=by
  show hp (cH (cH (cH s.heap gf _) q _) s.heap.length _)=_
  rw[eQ,eQ,eQ]
 have gN:hp H1 N=XC (.box (row.map C.d)):=by rw[e1];exact bn _ _ _
 have gq:hp H1 q=XC (.arr (e+1) z []):=by rw[e1,cn _ _ hqN];exact bn _ _ _
 have gm:hp H1 gf=XC (.box (mc.set jm (.d (.w um)))):=by rw[e1,cn _ _ hmN,cn _ _ hmq];exact bn _ _ _
 have go:∀id,id≠gf→id≠q→id≠N→hp H1 id=hp s.heap id:=fun id c1 c2 c3=>by rw[e1,cn _ _ c3,cn _ _ c2,cn _ _ c1]
 have fN:φ1 N=XC (b,o+k*z):=bn _ _ _
 have fq:φ1 q=XG:=by show ed _ _ _ q=_;rw[cn _ _ hqN];exact bn _ _ _
 have fo:∀id,id≠q→id≠N→φ1 id=φ id:=fun id c1 c2=>by show ed _ _ _ id=_;rw[cn _ _ c2,cn _ _ c1]
 have fcase:∀id b' o',φ1 id=XC (b',o')→(id=N∧b'=b)∨(id≠q∧id≠N∧φ id=XC (b',o')):=fun id b' o' hx=>by
  by_cases c1:id=N
  ·subst c1;rw[fN]at hx;cases hx;exact .inl ⟨rfl,rfl⟩
  ·by_cases c2:id=q
   ·subst c2;rw[fq]at hx;cases hx
   ·rw[fo id c2 c1]at hx;exact .inr ⟨c2,c1,hx⟩
 have hnb:∀id b' o',id≠q→φ id=XC (b',o')→b'≠b:=fun id b' o' c hx hbb=>c (hr.inj id q b' o' b o hx hφq hbb)
 have stp1:ix φ F (hp s.heap) w φ1 F (hp H1) w:=by
  refine⟨fun b hF=>⟨hF,rfl⟩,fun id=>?_⟩
  by_cases c3:id=N
  ·subst c3
   have:hp s.heap N=XG:=iY _
   rw[this];trivial
  ·by_cases c2:id=q
   ·subst c2;rw[hQ,gq];exact⟨by omega,fun h=>by omega⟩
   ·by_cases c1:id=gf
    ·subst c1;rw[hM,gm];exact⟨fo _ c2 c3,by simp,fun b o _=>nz.refl _ _ _ _⟩
    ·rw[go id c1 c2 c3];exact gX.same (fo id c2 c3) fun _ _ _=>rfl
 have hr1:Rel φ1 F (hp H1) w:=by
  refine⟨fun id bZ hb=>?_,fun id x hx=>?_,fun i j b1 o1 b2 o2 hi hj hbb=>?_,fun b1 hF=>⟨(hr.fY b1 hF).1,fun id b2 o2 hi hbb=>?_⟩⟩
  ·by_cases c3:id=N
   ·subst c3
    rw[gN]at hb;cases hb
    refine⟨b,o+k*z,cs,cT,fN,q2,by rw[XM,hrz];omega,?_⟩
    rw[XM,hrz]
    refine bX.of (by rw[XM,X3,Yc,hrz,Y0];omega) fun j c v hj hv=>?_
    rw[X1,XD]at hj
    obtain⟨d,hd,rfl⟩:=hj
    obtain⟨u,hu,hdr⟩:=q5 k row hrow j d hd
    rw[XX]at hv
    split at hv
    ·rw[XY,YZ,hu]at hv;cases hv;exact hdr
    ·cases hv
   ·by_cases c2:id=q
    ·subst c2;rw[gq]at hb;cases hb;exact .inl ⟨fq,rfl⟩
    ·by_cases c1:id=gf
     ·subst c1
      rw[gm]at hb;cases hb
      refine⟨bm,om,mcs,mT,(fo _ c2 c3).trans p1,p2,by simpa using p3,?_⟩
      rw[XS]
      refine bX.of (by rw[XS];exact bX.length p4) fun j c v hj hv=>?_
      by_cases hjj:j=jm
      ·subst hjj
       rw[XK hjl]at hj;cases hj
       rw[hum]at hv;cases hv
       exact dh.raw _ (dA.dx hcum)
      ·rw[XL (Zr hjj)]at hj
       obtain⟨v',hv',hcv⟩:=bX.get p4 hj
       rw[hv]at hv';cases hv'
       exact hcv.mono stp1
     ·rw[go id c1 c2 c3]at hb
      exact kj.mono stp1 (fo id c2 c3) (fun _ _ _=>rfl) (hr.bZ id bZ hb)
  ·by_cases c3:id=N
   ·subst c3;rw[gN];rfl
   ·by_cases c2:id=q
    ·subst c2;rw[gq];rfl
    ·by_cases c1:id=gf
     ·subst c1;rw[gm];rfl
     ·rw[go id c1 c2 c3];rw[fo id c2 c3]at hx;exact hr.rT id x hx
  ·subst hbb
   rcases fcase i b1 o1 hi with⟨rfl,hb1⟩|⟨i1,i2,hi'⟩<;>rcases fcase j b1 o2 hj with⟨rfl,hb2⟩|⟨j1,j2,hj'⟩
   ·rfl
   ·exact(hnb j b1 o2 j1 hj' hb1).elim
   ·exact(hnb i b1 o1 i1 hi' hb2).elim
   ·exact hr.inj i j b1 o1 b1 o2 hi' hj' rfl
  ·subst hbb
   rcases fcase id b2 o2 hi with⟨rfl,hb1⟩|⟨i1,i2,hi'⟩
   ·subst hb1;exact(hr.fY b2 hF).2 q b2 o hφq rfl
   ·exact(hr.fY b2 hF).2 id b2 o2 hi' rfl
 have hal1:pJ φ1 F w xs l:=⟨fun i x hi=>(hal.one i x hi).other (fun b hF=>⟨hF,rfl⟩) (fun _ _ _=>rfl) (YA _) fun b1 o1 hx=>⟨(hal.out hx).2.1,fun id o2 hid=>by
  rcases fcase id b1 o2 hid with⟨rfl,hb1⟩|⟨i1,i2,hi'⟩
  ·subst hb1;exact(hal.out hx).2.2 q o hφq
  ·exact(hal.out hx).2.2 id o2 hi'⟩,hal.inj,hal.rT⟩
 have hold1:∀b1,Old φ1 xs b1→Old φ xs b1:=by
  rintro b1 (⟨id,o1,hi⟩|⟨i,o1,hi⟩)
  ·rcases fcase id b1 o1 hi with⟨rfl,hb1⟩|⟨i1,i2,hi'⟩
   ·subst hb1;exact .inl ⟨q,o,hφq⟩
   ·exact .inl ⟨id,o1,hi'⟩
  ·exact .inr ⟨i,o1,hi⟩
 let s1:St:=⟨(t,.one (.c (.pt s.heap.length 0)))::s.aO,H1⟩
 have hS1:ES n m B s1 l a w φ1 F:=by
  refine h.of hz stp1 hr1 (fun t' av hav=>?_) hal1 hold1 fun b hb=> .inl hb
  change lk ((t,AV.one (.c (.pt s.heap.length 0)))::s.aO) t'=XC av at hav
  simp only[iU]at hav
  split at hav
  ·rename_i htt;subst htt;cases hav
   exact⟨_,b,o+k*z,gN,fN,hv⟩
  ·exact(h.rel.slot t' av hav).mono stp1
 let B':pr:=⟨φ1,F,w,H1,Old φ1 xs⟩
 have hS2:ES n (s.heap.length+1) B' s1 l a w φ1 F:=⟨hS1.rel,⟨xs,hal1,w8.refl⟩,gY.refl _ _ _ _ _⟩
 have hz1:w8 B.Z B.F B.w φ1 xs F w:=hz.trans ⟨YA _,fun _ _ _=>rfl,fun b hb=> .inl (hold1 b hb),fun b hb=> .inl hb,Io.refl _⟩
 refine⟨um,B',φ1,hS2,fun T s' l' a' w' φ' F' g=>?_⟩
 rintro⟨row',mc',sl',hN',hrl',hM',hjm',hQ',hsub,hbel,hbel2,hT⟩
 obtain⟨xs',k1,k2⟩:=g.al
 have kb:=g.gl.bZ N (Nat.lt_succ_self _)
 have gN0:hp B'.H N=XC (.box (row.map C.d)):=gN
 rw[gN0,hN']at kb
 obtain⟨kb1,_,kb2⟩:=kb
 have kb3:φ' N=XC (b,o+k*z):=kb1.trans fN
 have out1:=kb2 b (o+k*z) fN
 rw[XM,hrz]at out1
 have kq:=g.gl.bZ q (Nat.lt_succ_of_lt (hltN q (by rw[hQ];simp)))
 have gq0:hp B'.H q=XC (.arr (e+1) z []):=gq
 rw[gq0,hQ']at kq
 obtain⟨_,_,kq,_⟩:=kq.2 rfl
 have kq:φ' q=XG:=kq.trans fq
 have hF1:¬F' b:=fun hb=>(g.rel.rel.fY b hb).2 N b (o+k*z) kb3 rfl
 obtain⟨bx,ox,cs',cT',w1,w2,w3,w4⟩:=g.rel.rel.bZ N _ hN'
 rw[kb3]at w1;simp only[Zj,Zs]at w1
 obtain⟨rfl,rfl⟩:=w1
 rw[XM,hrl']at w3 w4
 have hcz:cs'.size=cs.size:=by
  have:=out1.1
  rw[eY w2,eY q2]at this
  exact Zk this
 have emb:=zW g.rel.rel hbel
 let φd:=down (fun x=>x) (hp (s'.heap.take N)) φ'
 have hrd:Rel φd F' (hp (s'.heap.take N)) w':=Rel.down emb g.rel.rel
 obtain⟨f1,f2⟩:=tR (φ:=φ') (F:=F') (w:=w') (m:=N) emb (fun _ _=>rfl) (fun i hi hg=>by rw[mV,if_pos (by omega)];exact hg)
 have hdsome:∀id b1 o1,φd id=XC (b1,o1)→id<N∧φ' id=XC (b1,o1):=fun id b1 o1 hx=>by
  obtain⟨x1,x2⟩:=eU hx
  refine⟨?_,x2⟩
  by_cases c:id<N
  ·exact c
  ·exact(x1 (by rw[mV,if_neg c])).elim
 have hdq:φd q=XG:=by
  cases hx:φd q with
  |none=>rfl
  |some x=>have:=(hdsome q x.1 x.2 hx).2;rw[kq]at this;cases this
 have hdb:∀id b1 o1,φd id=XC (b1,o1)→b1≠b:=fun id b1 o1 hx hbb=>by
  obtain⟨x1,x2⟩:=hdsome id b1 o1 hx
  have:=g.rel.rel.inj id N b1 o1 b (o+k*z) x2 kb3 hbb
  omega
 have hqlt:q<N:=hltN q (by rw[hQ];simp)
 have hmlt:gf<N:=hltN gf (by rw[hM];simp)
 have tq:hp (s'.heap.take N) q=XC (.arr (e+1) z []):=by rw[mV,if_pos hqlt];exact hQ'
 have tm:hp (s'.heap.take N) gf=XC (.box mc'):=by rw[mV,if_pos hmlt];exact hM'
 let φ2:gP:=ed φd q (XC (b,o))
 let H2:List (Option bw):=cH (cH (s'.heap.take N) q (.arr (e+2) z (R0.set k row'))) gf (.box (mc'.set jm (.own q (e+2) 0 len XG)))
 have e2:hp H2=ed (ed (hp (s'.heap.take N)) q (XC (.arr (e+2) z (R0.set k row')))) gf (XC (.box (mc'.set jm (.own q (e+2) 0 len XG)))):=by
  show hp (cH (cH _ q _) gf _)=_
  rw[eQ,eQ]
 have j2q:hp H2 q=XC (.arr (e+2) z (R0.set k row')):=by rw[e2,cn _ _ (Zr hmq)];exact bn _ _ _
 have j2m:hp H2 gf=XC (.box (mc'.set jm (.own q (e+2) 0 len XG))):=by rw[e2];exact bn _ _ _
 have j2o:∀id,id≠gf→id≠q→hp H2 id=hp (s'.heap.take N) id:=fun id c1 c2=>by rw[e2,cn _ _ c1,cn _ _ c2]
 have f2q:φ2 q=XC (b,o):=bn _ _ _
 have f2o:∀id,id≠q→φ2 id=φd id:=fun id c=>cn _ _ c
 have f2case:∀id b1 o1,φ2 id=XC (b1,o1)→(id=q∧b1=b∧o1=o)∨(id≠q∧φd id=XC (b1,o1)):=fun id b1 o1 hx=>by
  by_cases c:id=q
  ·subst c;rw[f2q]at hx;cases hx;exact .inl ⟨rfl,rfl,rfl⟩
  ·rw[f2o id c]at hx;exact .inr ⟨c,hx⟩
 have stp2:ix φd F' (hp (s'.heap.take N)) w' φ2 F' (hp H2) w':=by
  refine⟨fun b hF=>⟨hF,rfl⟩,fun id=>?_⟩
  by_cases c2:id=q
  ·subst c2;rw[tq,j2q];exact⟨by omega,fun h=>by omega⟩
  ·by_cases c1:id=gf
   ·subst c1;rw[tm,j2m];exact⟨f2o _ c2,by simp,fun b o _=>nz.refl _ _ _ _⟩
   ·rw[j2o id c1 c2];exact gX.same (f2o id c2) fun _ _ _=>rfl
 have hjl':jm<mc'.length:=(XJ.1 hjm').1
 have hrel2:Rel φ2 F' (hp H2) w':=by
  refine⟨fun id bZ hb=>?_,fun id x hx=>?_,fun i j b1 o1 b2 o2 hi hj hbb=>?_,fun b1 hF=>⟨(g.rel.rel.fY b1 hF).1,fun id b2 o2 hi hbb=>?_⟩⟩
  ·by_cases c2:id=q
   ·subst c2
    rw[j2q]at hb;cases hb
    refine .inr ⟨b,o,cs',cT',f2q,w2,by rw[XS,hcz];exact q3,fun r hr'=>?_,fun i r hi j d hj=>?_⟩
    ·rcases Yf hr' with hr'|rfl
     ·exact q4 r hr'
     ·exact hrl'
    ·rw[Yb]at hi
     by_cases hki:k=i
     ·subst hki
      simp only[if_true,hklt]at hi;cases hi
      have hjl2:j<z:=by
       have:=(XJ.1 hj).1
       omega
      obtain⟨u,hu,hcu⟩:=bX.get w4 (i:=j) (a:= .d d) (by rw[X1,hj];rfl)
      refine⟨u,?_,hcu⟩
      rw[XX,if_pos hjl2,XY,YZ]at hu;exact hu
     ·rw[if_neg hki]at hi
      obtain⟨u,hu,hd'⟩:=q5 i r hi j d hj
      refine⟨u,?_,hd'.mono g.gl.fY⟩
      have hjz:j<z:=by rw[←q4 r (XV hi)];exact(XJ.1 hj).1
      have:=out1.2 (o+i*z+j) (by
       rcases YQ hki with hlt|hgt
       ·right
        have:k*z+z≤i*z:=by have:=YH z hlt;rw[YJ]at this;exact this
        omega
       ·left
        have:i*z+z≤k*z:=by have:=YH z hgt;rw[YJ]at this;exact this
        omega)
      rw[cell?_of_heap w2]at this
      exact this.trans ((cell?_of_heap q2 _).trans hu)
   ·by_cases c1:id=gf
    ·subst c1
     rw[j2m]at hb;cases hb
     obtain⟨bm',om',mcs',mT',s1,s2,s3,s4⟩:=hrd.bZ _ _ tm
     refine⟨bm',om',mcs',mT',(f2o _ c2).trans s1,s2,by simpa using s3,?_⟩
     rw[XS]
     refine bX.of (by rw[XS];exact bX.length s4) fun j c v hj hv=>?_
     by_cases hjj:j=jm
     ·subst hjj
      rw[XK hjl']at hj;cases hj
      obtain⟨v',hv',hcv⟩:=bX.get s4 hjm'
      rw[hv]at hv';cases hv'
      have hcv:dh w' F' (.w um) v:=hcv
      cases hcv
      obtain⟨e0,z0,Rx,hg,_,A0,l0,kk,rfl,hk⟩:=hcum
      rw[hQ]at hg;cases hg
      obtain⟨rfl,h2,h3,h4,hor⟩:=hk rfl
      refine⟨e+2,z,_,j2q,YA _,A0,_,kk,rfl,fun _=>⟨rfl,h2,(fun c hc=>by cases hc),fun _=>by rw[XS];exact h4 rfl,hor.imp (fun h=>h) ?_⟩⟩
      rintro⟨b3,o3,n3,y1,y2,y3,y4⟩
      rw[hφq]at y1;cases y1
      exact⟨b,o,n3,f2q,y2,out1.1.trans y3,y4⟩
     ·rw[XL (Zr hjj)]at hj
      obtain⟨v',hv',hcv⟩:=bX.get s4 hj
      rw[hv]at hv';cases hv'
      exact hcv.mono stp2
    ·rw[j2o id c1 c2]at hb
     exact kj.mono stp2 (f2o id c2) (fun _ _ _=>rfl) (hrd.bZ id bZ hb)
  ·by_cases c2:id=q
   ·subst c2;rw[j2q];rfl
   ·by_cases c1:id=gf
    ·subst c1;rw[j2m];rfl
    ·rw[j2o id c1 c2];rw[f2o id c2]at hx;exact hrd.rT id x hx
  ·subst hbb
   rcases f2case i b1 o1 hi with⟨rfl,hb1,_⟩|⟨i1,hi'⟩<;>rcases f2case j b1 o2 hj with⟨rfl,hb2,_⟩|⟨j1,hj'⟩
   ·rfl
   ·exact(hdb j b1 o2 hj' hb1).elim
   ·exact(hdb i b1 o1 hi' hb2).elim
   ·exact hrd.inj i j b1 o1 b1 o2 hi' hj' rfl
  ·subst hbb
   rcases f2case id b2 o2 hi with⟨rfl,hb1,_⟩|⟨i1,hi'⟩
   ·subst hb1;exact hF1 hF
   ·exact(hrd.fY b2 hF).2 id b2 o2 hi' rfl
 have hald:pJ φd F' w' xs' l':=k1.keep f1 fun b hb=>⟨hb,rfl⟩
 have hal2:pJ φ2 F' w' xs' l':=⟨fun i x hi=>(hald.one i x hi).other (fun b hF=>⟨hF,rfl⟩) (fun _ _ _=>rfl) (YA _) fun b1 o1 hx=>⟨(hald.out hx).2.1,fun id o2 hid=>by
  rcases f2case id b1 o2 hid with⟨rfl,hb1,_⟩|⟨i1,hi'⟩
  ·subst hb1;exact(k1.out hx).2.2 N _ kb3
  ·exact(hald.out hx).2.2 id o2 hi'⟩,k1.inj,k1.rT⟩
 have hold2:∀b1,Old φ2 xs' b1→Old φ' xs' b1:=by
  rintro b1 (⟨id,o1,hi⟩|⟨i,o1,hi⟩)
  ·rcases f2case id b1 o1 hi with⟨rfl,hb1,_⟩|⟨i1,hi'⟩
   ·subst hb1;exact .inl ⟨N,_,kb3⟩
   ·exact .inl ⟨id,o1,(hdsome id b1 o1 hi').2⟩
  ·exact .inr ⟨i,o1,hi⟩
 have hm1:m≤s.heap.length+1:=by omega
 refine⟨_,l',φ2,F',hT,⟨⟨g.rel.size,g.rel.defers,hrel2,fun t' av hav=>?_⟩,⟨xs',hal2,(hz1.trans k2).trans ⟨YA _,fun _ _ _=>rfl,fun b hb=> .inl (hold2 b hb),fun b hb=> .inl hb,Io.refl _⟩⟩,((hS1.gl.trans (g.gl.le hm1)).trans (f2.le hm)).trans stp2.m⟩⟩
 have h0:=g.rel.slot t' av (ym hsub t' av hav)
 exact(ec.down emb (AV.gd (List.all_eq_true.1 hbel2 _ (Ie hav)) h0.live) h0).mono stp2
theorem VE.PJ{c:AC}{R:RE}{t gf q e len k z jm:Nat}{mc:List C}{R0:List (List D)}{row:List D}(hs:lk s.aO t=XC (.one (.c (.pe q e k 0))))
 (hM:hp s.heap gf=XC (.box mc)) (hjm:mc[jm]? =XC (.own q e 0 len XG)) (hQ:hp s.heap q=XC (.arr e z R0)) (hrow:R0[k]? =XC row) (hm:m≤s.heap.length)
 (h:∀um B',VE P n (s.heap.length+1) B' c (fun ex=>Kz s.heap.length q gf jm e len z k R0 um (R ex)) ⟨(t,.one (.c (.pt s.heap.length 0)))::s.aO,cH (cH (cH s.heap gf (.box (mc.set jm (.d (.w um))))) q (.arr (e+1) z [])) s.heap.length (.box (row.map C.d))⟩ l):VE P n m B c R s l:=by
 intro cd hc φ F ac w hS
 obtain⟨um,B',φ1,h1,h2⟩:=hS.PJ hs hM hjm hQ hrow hm
 refine wp_mono (h um B' cd hc φ1 F ac w h1) fun ex a' w' hx=>?_
 cases ex with
 |normal=>obtain⟨s',l',φ',F',g1,g2⟩:=hx;exact h2 _ s' l' a' w' φ' F' g2 g1
 |exit id=>obtain⟨s',l',φ',F',g1,g2⟩:=hx;exact h2 _ s' l' a' w' φ' F' g2 g1
 |ret=>obtain⟨s',l',φ',F',g1,g2⟩:=hx;exact h2 _ s' l' a' w' φ' F' g2 g1
 |_=>exact hx.elim
end
def HP{α:Type}(xs:List α)(off n:Nat)(j:Int):Option α:=if 0≤j∧j<n then cI xs ((off+j.toNat:Nat):Int)else XG
theorem js{α:Type}{xs:List α}{off n:Nat}{j:Int}{y:α}(h:HP xs off n j=XC y):cI xs ((off+j.toNat:Nat):Int)=XC y:=by
 unfold HP at h
 split at h
 ·exact h
 ·cases h
theorem B5{P:Y7}{s:St}{K:Out→Prop}{sz:Nat}{x i:O}{α:Type}{enc:α→List D}{xs:List α}{id ep off:Nat}{cap:Option Nat}{j:Int}{kk:IntKind}{len:Nat}{z:α}(hi:s.eZ i=XC (.int kk j))(hx:s.e9 x=XC (.own id ep off len cap))(hH:hp s.heap id=XC (.arr ep sz (xs.map enc)))
 (h:HP xs off len j=XC z) (hk:K ⟨XC (.one (.c (.pe id ep (off+j.toNat) 0))),[]⟩):s1 P (.indexA sz x i) s K:=by
 unfold HP at h
 split at h
 ·rename_i hj
  obtain⟨h0,h1,h2⟩:=aQ h
  rw[l5,hi]
  simp only[hx,hH]
  exact⟨hj,⟨trivial,trivial,by simp;omega⟩,hk⟩
 ·cases h
end Go.Fw
