/- Each Go function as a function over typed data, and its walk. -/
import Derived.Test.YtojbebejhgbfeaaGreatW0
import Derived.Test.YtojbebejhgbfeaaGreatW1
import Derived.Test.YtojbebejhgbfeaaGreatW2
import Derived.Test.YtojbebejhgbfeaaGreatW3
import Derived.Test.YtojbebejhgbfeaaGreatW4
open Go.IntKind renaming i64->XC
open Option renaming some->XD,none->XF,map_eq_some_iff->XG
open Go.Proofs.Tryz renaming prog->XH
open Sum renaming inr->XI,inl->XJ
namespace Go.Proofs.YtojbebejhgbfeaaGreat
open Go Go.Fw Go.Shelf
set_option maxRecDepth 100000
set_option maxHeartbeats 4000000
set_option linter.unusedSimpArgs false
set_option linter.unusedVariables false
def F188(x0:Int):Option (Int):=(F189 x0 0 1000000000000000).bind fun t1=>XD ((if 1000000000000000<(XC.wrap (((if(1000000000000000:Int)<(if x0<(0:Int)then(0:Int)else x0)then(1000000000000000:Int)else(if x0<(0:Int)then(0:Int)else x0)))+1))then 1000000000000000 else(XC.wrap (((if(1000000000000000:Int)<(if x0<(0:Int)then(0:Int)else x0)then(1000000000000000:Int)else(if x0<(0:Int)then(0:Int)else x0)))+1))))
def a188:dG:=⟨7,[(.tmp 2)],
 (.seq (.reg [Qe 2 0])
 (.seq (.reg [Qa 3 0,
sq 4 (.call 189 [(.t 3),(kI 0),(kI 1000000000000000)]),
Qm 5 4 1,
sq 6 (.min (.t 5) (kI 1000000000000000)),
Qa 2 6])
 .ret))⟩
theorem F188_ok{x0 r}(h:F188 x0=XD r):aW XH 188 [.c (dI x0)] [] (bJ [.c (dI r)]) []:=by
 rw[F188]at h
 refine zc a188 (by kernel_rfl) rfl (ww ?_)
 obtain⟨t1,ht1,h⟩:=bi h
 refine cN [] (F189_ok ht1) trivial (ww ?_)
 cases h
 exact eF []
def F74(x0:ak):Option (ByteArray):=(F116 x0.bY x0.bE x0.aV).bind fun t1=>XD t1
def a74:dG:=⟨10,[(.tmp 2)],
 (.seq (.reg [Qg 1 0,
sq 2 (.mv (kS ⟨#[]⟩))])
 (.seq (.reg [Qb 3 0 1,
Qd 4 3,
Qb 5 1 1,
Qd 6 5,
Qb 7 2 1,
Qd 8 7,
sq 9 (.call 116 [(.t 4),(.t 6),(.t 8)]),
Qa 2 9])
 .ret))⟩
theorem F74_ok{x0 r}(h:F74 x0=XD r):aW XH 74 [.agg (MR x0)] [] (bJ [.c (dS r)]) []:=by
 rw[F74]at h
 refine zc a74 (by kernel_rfl) rfl (ww ?_)
 obtain⟨t1,ht1,h⟩:=bi h
 refine cN [] (F116_ok ht1) trivial (ww ?_)
 cases h
 exact eF []
def F194(x0:Int)(x1:Int):Option (Int):=(F183 ((XC.wrap (x0+x1)))).bind fun t1=>XD ((if 1000000000000000<(if((XC.wrap (x0+x1)))<0 then 0 else((XC.wrap (x0+x1))))then 1000000000000000 else(if((XC.wrap (x0+x1)))<0 then 0 else((XC.wrap (x0+x1))))))
def a194:dG:=⟨9,[(.tmp 4)],
 (.seq (.reg [Qe 4 0])
 (.seq (.reg [Qa 5 0,
Qa 6 1,
sq 7 (.bin .add (.t 5) (.t 6)),
Qk 8 183 7,
Qa 4 8])
 .ret))⟩
theorem F194_ok{x0 x1 r}(h:F194 x0 x1=XD r):aW XH 194 [.c (dI x0),.c (dI x1)] [] (bJ [.c (dI r)]) []:=by
 rw[F194]at h
 refine zc a194 (by kernel_rfl) rfl (ww ?_)
 obtain⟨t1,ht1,h⟩:=bi h
 refine cN [] (F183_ok ht1) trivial (ww ?_)
 cases h
 exact eF []
def F228_l1(x2:Int):Nat→(List Entry)→Int→Int→Option ((List Entry)×Int)
 |0,_,_,_=>XF
 |k+1,o1_0,o1_1,o1_2=>(if¬(o1_1=o1_2)then(if o1_2<o1_1 then(F229 o1_0 ((XC.wrap (x2-o1_1))) x2 o1_2).bind fun t4=>F228_l1 x2 k t4 ((XC.wrap (o1_1-o1_2))) o1_2 else(F229 o1_0 ((XC.wrap (x2-o1_1))) ((XC.wrap (((XC.wrap (x2+o1_2)))-o1_1))) o1_1).bind fun t5=>F228_l1 x2 k t5 o1_1 ((XC.wrap (o1_2-o1_1))))else XD ((o1_0,o1_1)))
def F228i(x0:(List Entry))(x1:Int)(x2:Int)(x3:Int):Option ((List Entry)):=((F228_l1 x2 1099511627776 x0 ((XC.wrap (x2-x1))) ((XC.wrap (x3-x2)))).bind fun o1=>(F229 o1.1 ((XC.wrap (x2-o1.2))) x2 o1.2).bind fun t6=>XD t6)
def F228(x0:(List Entry))(x1:Int)(x2:Int)(x3:Int):Option ((List Entry)):=(F228i x0 x1 x2 x3).bind fun r=>if r.length=x0.length then XD r else XF
theorem F228_len0{x0:(List Entry)}{x1:Int}{x2:Int}{x3:Int}{r:(List Entry)}(h:F228 x0 x1 x2 x3=XD r):r.length=x0.length:=(bp h).2
def a228:dG:=⟨58,[],
 (.seq (.reg [Qa 12 2,
Qa 13 1,
sq 14 (.bin .sub (.t 12) (.t 13)),
Qa 10 14])
 (.seq (.reg [Qa 15 3,
Qa 16 2,
sq 17 (.bin .sub (.t 15) (.t 16)),
Qa 11 17])
 (.seq (.sem (.block 0 (.loop (.seq (.seq (.reg [Qa 18 10,
Qa 19 11,
sq 20 (.bin .neq (.t 18) (.t 19))])
 (.cond (.t 20)
 .skip
 (.exit 0)))
 (.block 1 (.seq (.reg [Qa 21 10,
Qa 22 11,
sq 23 (.bin .gtr (.t 21) (.t 22))])
 (.cond (.t 23)
 (.seq (.reg [Qa 24 0,
Qa 25 2,
Qa 26 10,
sq 27 (.bin .sub (.t 25) (.t 26)),
Qa 28 2,
Qa 29 11,
Qa 30 4,
zl 31 (.call 229 [(.t 24),(.t 27),(.t 28),(.t 29),(.t 30)]) [] []])
 (.reg [Qa 32 10,
Qa 33 11,
sq 34 (.bin .sub (.t 32) (.t 33)),
Qa 10 34]))
 (.seq (.reg [Qa 35 0,
Qa 36 2,
Qa 37 10,
sq 38 (.bin .sub (.t 36) (.t 37)),
Qa 39 2,
Qa 40 11,
sq 41 (.bin .add (.t 39) (.t 40)),
Qa 42 10,
sq 43 (.bin .sub (.t 41) (.t 42)),
Qa 44 10,
Qa 45 4,
zl 46 (.call 229 [(.t 35),(.t 38),(.t 43),(.t 44),(.t 45)]) [] []])
 (.reg [Qa 47 11,
Qa 48 10,
sq 49 (.bin .sub (.t 47) (.t 48)),
Qa 11 49])))))))))
 (.reg [Qa 50 0,
Qa 51 2,
Qa 52 10,
sq 53 (.bin .sub (.t 51) (.t 52)),
Qa 54 2,
Qa 55 10,
Qa 56 4,
zl 57 (.call 229 [(.t 50),(.t 53),(.t 54),(.t 55),(.t 56)]) [] []]))))⟩
theorem F228_ok{x0 x1 x2 x3 r}{e0:Nat}(h:F228 x0 x1 x2 x3=XD r):aW XH 228 [.c (ow 0 e0 x0),.c (dI x1),.c (dI x2),.c (dI x3),.c (.fn 196 [])] [cA e0 x0] (bJ []) [cA e0 r]:=by
 replace h:=(bp h).1
 rw[F228i]at h
 refine zc a228 (by kernel_rfl) rfl (ww ?_)
 obtain⟨o1,ho,h⟩:=bi h
 refine bD (fun s=>s=⟨[(0,oc (ow 0 e0 o1.1)),(2,oI x2),(4,oc (.fn 196 [])),(10,oI o1.2)],[cA e0 o1.1]⟩) ?_ ?_
 ·have h:=ho
  refine ww ?_
  refine bL (fun j s=>∃(o1_0:List Entry) (o1_1:Int) (o1_2:Int),s=⟨[(0,oc (ow 0 e0 o1_0)),(2,oI x2),(4,oc (.fn 196 [])),(10,oI o1_1),(11,oI o1_2)],[cA e0 o1_0]⟩∧F228_l1 x2 j o1_0 o1_1 o1_2=XD o1) 1099511627776 [XD 0] ⟨x0,(XC.wrap (x2-x1)),(XC.wrap (x3-x2)),rfl,h⟩ ?_
  rintro j _ ⟨o1_0,o1_1,o1_2,rfl,h⟩
  cases j with
  |zero=>cases(show(XF:Option _)=XD _ from h)
  |succ j=>
   rw[F228_l1]at h
   refine ww ?_
   refine bG h (fun c2 h=>ww ?_) (fun c2 h=>?_)
   ·refine bG h (fun c3 h=>ww ?_) (fun c3 h=>?_)
    ·obtain⟨t4,ht4,h⟩:=bi h
     refine cN [0] (F229_ok (e0:=e0) ht4) ⟨⟨rfl,trivial⟩,trivial⟩ ?_
     refine ww ?_
     have qx:=q1 (F229_len0 ht4)
     exact iI j [XD 0] ⟨t4,(XC.wrap (o1_1-o1_2)),o1_2,rfl,h⟩ (Nat.lt_succ_self _)
    ·refine ww ?_
     obtain⟨t5,ht5,h⟩:=bi h
     refine cN [0] (F229_ok (e0:=e0) ht5) ⟨⟨rfl,trivial⟩,trivial⟩ ?_
     refine ww ?_
     have qx:=q1 (F229_len0 ht5)
     exact iI j [XD 0] ⟨t5,o1_1,(XC.wrap (o1_2-o1_1)),rfl,h⟩ (Nat.lt_succ_self _)
   ·refine ww ?_
    cases h
    exact eM [XD 0] rfl
 rintro _ rfl
 refine ww ?_
 obtain⟨t6,ht6,h⟩:=bi h
 refine cN [0] (F229_ok (e0:=e0) ht6) ⟨⟨rfl,trivial⟩,trivial⟩ ?_
 refine ww ?_
 cases h
 have qx:=q1 (F229_len0 ht6)
 exact tg [XD 0]
def F37_l3:List af→Nat→(List af)→Option ((List af))
 |[],o3_1,o3_0=>XD o3_0
 |xo3::xs,o3_1,o3_0=>(cI o3_0 ((o3_1:Int))).bind fun y5=>(gw y5.an.ae.ad).bind fun t6=>(gw y5.aK).bind fun t7=>(gw y5.aq).bind fun t8=>F37_l3 xs (o3_1+1) ((o3_0.set ((o3_1:Int)).toNat ((⟨(⟨y5.an.ak,y5.an.Spec,(⟨y5.an.ae.bC,y5.an.ae.bd,y5.an.ae.bf,y5.an.ae.Started,y5.an.ae.bu,t6,y5.an.ae.bS,y5.an.ae.bg,y5.an.ae.b7⟩:cK)⟩:an),t7,t8,y5.bh,y5.bK⟩:af))))
def F37(x0:ah):Option ((List af)×(List aw)):=(gw x0.aM).bind fun t1=>(gw x0.bq).bind fun t2=>(((ck (0≤t2.length∧t2.length≤4294967290)).bind fun u9=>F37_l3 t2 0 t2).bind fun o3=>XD ((o3,t1)))
def a37:dG:=⟨60,[(.tmp 2)],
 (.seq (.reg [Qg 1 0,
sq 2 (.mv (.k (.c (.d (.v (.pointer XF))))))])
 (.seq (.reg [Qc 6 30 1,
sq 7 (.build zQ [(0,30,(.t 6))]),
Qg 8 7,
Qa 3 8])
 (.seq (.reg [Qa 9 3,
Qb 10 26 1,
Qd 11 10,
Qk 12 29 11,
Qb 13 0 9,
Qb 14 0 13,
Qb 15 26 14,
su (.store 1 (.t 15) (.t 12))])
 (.seq (.reg [Qa 16 3,
Qb 17 25 1,
Qd 18 17,
Qk 19 70 18,
Qb 20 0 16,
Qb 21 0 20,
Qb 22 25 21,
su (.store 1 (.t 22) (.t 19))])
 (.seq (.seq (.reg [Qa 23 3,
Qb 24 0 23,
Qb 25 0 24,
Qb 26 25 25,
Qd 27 26,
Qh 28 27,
Qe 29 0])
 (.sem (.block 0 (.loop (.seq (.reg [Qn 30 29 28])
 (.seq (.cond (.t 30)
 .skip
 (.exit 0))
 (.seq (.block 1 (.seq (.reg [Qa 31 29,
Qp 32 36 27 29,
Qc 33 36 32,
sq 5 (.zbox Fk),
Qa 4 31,
su (.store 36 (.t 5) (.t 33))])
 (.seq (.reg [Qb 34 0 5,
Qb 35 23 34,
Qb 36 5 35,
Qd 37 36,
Qk 38 71 37,
Qb 39 0 5,
Qb 40 23 39,
Qb 41 5 40,
su (.store 1 (.t 41) (.t 38))])
 (.seq (.regd [Qb 42 32 5,
sd 43 (.load XF (.t 42)) [0],
zn 44 (.call 72 [(.t 43)]) [0,1] [0,1],
Qb 45 33 5,
sd 46 (.load XF (.t 45)) [3],
sd 47 (.call 73 [(.t 46)]) [0,1,2,3,4],
sd 48 (.fieldA 32 (.t 5)) [0,1,2,3,4],
⟨XF,XF,.store 1 (.t 48) (.t 44),[0,1,2,3,4,5,6],(.lone [])⟩,
sd 49 (.fieldA 33 (.t 5)) [0,1,2,3,4,5,6,7],
⟨XF,XF,.store 1 (.t 49) (.t 47),[0,1,2,3,4,5,6,7,8],(.lone [])⟩])
 (.regd [Qa 50 3,
sd 51 (.fieldA 0 (.t 50)) [0],
sd 52 (.fieldA 0 (.t 51)) [0,1],
sd 53 (.fieldA 25 (.t 52)) [0,1,2],
sd 54 (.load XF (.t 53)) [0,1,2,3],
Qa 55 4,
Qc 56 36 5,
sd 57 (.indexA 36 (.t 54) (.t 55)) [0,1,2,3,4,5,6],
⟨XF,XF,.store 36 (.t 57) (.t 56),[0,1,2,3,4,5,6,7],(.lone [])⟩])))))
 (.reg [Qm 58 29 1,
Qa 29 58]))))))))
 (.seq (.reg [Qa 59 3,
Qa 2 59])
 .ret))))))⟩
theorem F37_ok{x0 r}(h:F37 x0=XD r):aW XH 37 [.agg (dy x0)] [] (bJ [.c (.pt 0 0)]) [xb (gW x0 (.own 1 0 0 (r.1.length) XF) (.own 2 0 0 (r.2.length) XF)),XD (.arr 0 36 (r.1.map bT)),XD (.arr 0 3 (r.2.map aR))]:=by
 rw[F37]at h
 refine zc a37 (by kernel_rfl) rfl (ww ?_)
 obtain⟨t1,ht1,h⟩:=bi h
 refine cN [] (F29_ok ht1) trivial (ww ?_)
 obtain⟨t2,ht2,h⟩:=bi h
 refine cN [] (F70_ok ht2) trivial (ww ?_)
 obtain⟨o3,ho,h⟩:=bi h
 refine bD (fun s=>s=⟨[(3,Pz 0)],[xb (gW x0 (.own 1 0 0 (o3.length) XF) (.own 2 0 0 (t1.length) XF)),XD (.arr 0 36 (o3.map bT)),XD (.arr 0 3 (t1.map aR))]⟩) ?_ ?_
 ·have h:=ho
  obtain⟨_,hk,h⟩:=bi h
  have hk:=cr hk
  refine ww ?_
  refine bL (fun j s=>∃(o3_1:Nat) (o3_0:List af),(o3_1≤t2.length∧j=t2.length-o3_1)∧s=⟨[(3,Pz 0),(27,oc (.own 1 0 0 (o3_0.length) XF)),(28,oI (t2.length:Int)),(29,oI (o3_1:Int))],[xb (gW x0 (.own 1 0 0 (o3_0.length) XF) (.own 2 0 0 (t1.length) XF)),XD (.arr 0 36 (o3_0.map bT)),XD (.arr 0 3 (t1.map aR))]⟩∧F37_l3 (t2.drop o3_1) o3_1 o3_0=XD o3) (t2.length-0) [XD 1,XD 3,XD 2] ⟨0,t2,⟨hk.1,rfl⟩,rfl,h⟩ ?_
  rintro _ _ ⟨o3_1,o3_0,⟨hi,rfl⟩,rfl,h⟩
  refine ww ?_
  refine dq (fun c4=>?_) (fun c4=>?_)
  ·obtain⟨xo3,hxo3,hd⟩:=cW (show(o3_1:Int)<(t2.length:Int)from c4)
   rw[hd,F37_l3]at h
   refine ww ?_
   obtain⟨y5,hy5,h⟩:=bi h
   refine tO (enc:=bT) (xs:=o3_0) rfl rfl rfl hy5 (ww ?_)
   refine cD.rd (aQ hy5).2.1 (ww ?_)
   obtain⟨t6,ht6,h⟩:=bi h
   have qx:=q2 (cb hxo3) (cb hy5)
   refine cQ [] (F71_ok ht6) (ww ?_)
   obtain⟨t7,ht7,h⟩:=bi h
   have qx:=q2 (cb hxo3) (cb hy5)
   refine cQ [] (F72_ok ht7) (ww ?_)
   refine iu (by simp[fE,gO,cH]) (ww ?_)
   obtain⟨t8,ht8,h⟩:=bi h
   have qx:=q2 (cb hxo3) (cb hy5)
   refine cQ [] (F73_ok ht8) (ww ?_)
   refine iu (by simp[fE,gO,cH]) (ww ?_)
   have qx:=q2 (cb hxo3) (cb hy5)
   refine lV (enc:=bT) (xs:=o3_0) rfl rfl rfl hy5 (ww ?_)
   refine eu.rd (y':=(⟨(⟨y5.an.ak,y5.an.Spec,(⟨y5.an.ae.bC,y5.an.ae.bd,y5.an.ae.bf,y5.an.ae.Started,y5.an.ae.bu,t6,y5.an.ae.bS,y5.an.ae.bg,y5.an.ae.b7⟩:cK)⟩:an),t7,t8,y5.bh,y5.bK⟩:af)) (aQ hy5).2.1 (by simp[EE.down]) (by first|rfl|(simp only[b5];rfl)) (ww ?_)
   rw[cL (by omega)]
   have qx:=q2 (cb hxo3) (cb hy5)
   exact iI (t2.length-(o3_1+1)) i3 ⟨o3_1+1,(o3_0.set ((o3_1:Int)).toNat ((⟨(⟨y5.an.ak,y5.an.Spec,(⟨y5.an.ae.bC,y5.an.ae.bd,y5.an.ae.bf,y5.an.ae.Started,y5.an.ae.bu,t6,y5.an.ae.bS,y5.an.ae.bg,y5.an.ae.b7⟩:cK)⟩:an),t7,t8,y5.bh,y5.bK⟩:af))),⟨by omega,rfl⟩,rfl,h⟩ (by omega)
  rw[cX (show¬((o3_1:Int)<(t2.length:Int))from c4),F37_l3]at h
  refine ww ?_
  cases h
  exact eM i3 rfl
 rintro _ rfl
 refine ww ?_
 cases h
 exact eF i3
def F129v2_l1(b1:ByteArray):List aw→Nat→Option ((Int) ⊕ (Unit))
 |[],o1_0=>XD (XI (()))
 |xo1::xs,o1_0=>(F109 xo1 b1).bind fun t3=>(if xo1.aV=b1 then(XD ((o1_0:Int))).map XJ else F129v2_l1 b1 xs (o1_0+1))
def F129v2(x0:(List aw))(b1:ByteArray):Option (Int):=(((ck (0≤x0.length∧x0.length≤4294967290)).bind fun u5=>F129v2_l1 b1 x0 0:Option ((Int) ⊕ (Unit))).bind fun o1=>match o1 with|XJ f=>XD f|XI po1=>XD ((-1)))
def a129v2:dG:=⟨19,[(.tmp 4)],
 (.seq (.reg [Qe 4 0])
 (.seq (.seq (.reg [Qa 6 0,
Qh 7 6,
Qe 8 0])
 (.sem (.block 0 (.loop (.seq (.reg [Qn 9 8 7])
 (.seq (.cond (.t 9)
 .skip
 (.exit 0))
 (.seq (.block 1 (.seq (.reg [Qa 10 8,
Qa 5 10])
 (.seq (.reg [Qa 11 1,
Qa 12 0,
Qa 13 5,
Qp 14 3 12 13,
Qc 15 3 14,
zl 16 (.callv (.t 11) [(.t 15)]) [] [12,14]])
 (.cond (.t 16)
 (.seq (.reg [Qa 17 5,
Qa 4 17])
 .ret)
 .skip))))
 (.reg [Qm 18 8 1,
Qa 8 18]))))))))
 (.seq (.reg [sq 4 (.mv (kI (-1)))])
 .ret)))⟩
theorem a129v2_ok:nv XH 129=XD a129v2.er:=by kernel_rfl
theorem F129v2_ok{x0 b1 r}{e0:Nat}(h:F129v2 x0 b1=XD r):aW XH 129 [.c (ow 0 e0 x0),.c (.fn 109 [(1,0)])] [ba e0 x0,xb [dS b1]] (bJ [.c (dI r)]) [ba e0 x0,xb [dS b1]]:=by
 refine pF a129v2_ok (by simp[a129v2]) ?_
 rw[F129v2]at h
 simp only[a129v2,VW.down,Nat.reduceEqDiff,reduceCtorEq,Nat.reduceAdd,Nat.reduceLeDiff,Nat.reduceLT,Nat.reduceBEq,Nat.reduceSub,EE.down]
 obtain⟨o1,ho,h⟩:=bi h
 refine bD (fun s=>∃po1,o1=XI po1∧s=⟨[],[ba e0 x0,xb [dS b1]]⟩) ?_ ?_
 ·have h0o1:=h
  have h:=ho
  obtain⟨_,hk,h⟩:=bi h
  have hk:=cr hk
  refine ww ?_
  refine bL (fun j s=>∃(o1_0:Nat),(o1_0≤x0.length∧j=x0.length-o1_0)∧s=⟨[(0,oc (ow 0 e0 x0)),(1,oc (.fn 109 [(1,0)])),(7,oI (x0.length:Int)),(8,oI (o1_0:Int))],[ba e0 x0,xb [dS b1]]⟩∧F129v2_l1 b1 (x0.drop o1_0) o1_0=XD o1) (x0.length-0) i2 ⟨0,⟨hk.1,rfl⟩,rfl,h⟩ ?_
  rintro _ _ ⟨o1_0,⟨hi,rfl⟩,rfl,h⟩
  refine ww ?_
  refine dq (fun c2=>?_) (fun c2=>?_)
  ·obtain⟨xo1,hxo1,hd⟩:=cW (show(o1_0:Int)<(x0.length:Int)from c2)
   rw[hd,F129v2_l1]at h
   refine ww ?_
   refine tO (enc:=aR) (xs:=x0) rfl rfl rfl hxo1 (ww ?_)
   refine cD.rd (aQ hxo1).2.1 (ww ?_)
   obtain⟨t3,ht3,h⟩:=bi h
   have qx:=q1 (cb hxo1)
   refine cQ [1] (F109_ok ht3) (ww ?_)
   refine bG h (fun c4 h=>ww ?_) (fun c4 h=>ww ?_)
   ·obtain⟨fh0o1,hfh0o1,rfl⟩:=XG.1 h
    have h:=hfh0o1.trans h0o1
    cases h
    have qx:=q1 (cb hxo1)
    exact tg i2
   rw[cL (by omega)]
   have qx:=q1 (cb hxo1)
   exact iI (x0.length-(o1_0+1)) i2 ⟨o1_0+1,⟨by omega,rfl⟩,rfl,h⟩ (by omega)
  rw[cX (show¬((o1_0:Int)<(x0.length:Int))from c2),F129v2_l1]at h
  refine ww ?_
  cases h
  exact eM i2 ⟨_,rfl,rfl⟩
 rintro _ ⟨po1,rfl,rfl⟩
 dsimp only at h
 refine ww ?_
 cases h
 exact eF i2
def Kf:AC:=(.regd [Qa 18 1,
Qa 19 0,
Qa 20 5,
sd 21 (.indexA 3 (.t 19) (.t 20)) [1,2],
sd 22 (.load (XD 3) (.t 21)) [1,2,3],
Qa 23 0,
Qa 24 5,
sd 25 (.bin .sub (.t 24) (kI 1)) [6],
sd 26 (.indexA 3 (.t 23) (.t 25)) [5,6,7],
sd 27 (.load (XD 3) (.t 26)) [5,6,7,8],
zl 28 (.callv (.t 18) [(.t 22),(.t 27)]) [0,1,2,3,4,5,6,7,8,9] []])
def F33e(e:Nat)(xs:List aw)(k:Int):Option (Bool):=(cI xs k).bind fun y1=>(cI xs ((XC.wrap (k-1)))).bind fun y2=>(F34 y1 y2).bind fun t3=>XD (decide (y1.aV=y2.aV))
theorem F33e_ok{e xs k r}(h:F33e e xs k=XD r):sK XH 66 1 Kf [] (sM 66 1 (fun s=>s=⟨[(0,oc (ow 0 e xs)),(1,oc (.fn 34 [])),(5,oI k),(28,oB r)],[ba e xs]⟩) (xQ 66 1 (fun _ _=>False) (fun _=>False)))
 ⟨[(0,oc (ow 0 e xs)),(1,oc (.fn 34 [])),(5,oI k)],[ba e xs]⟩:=by
 rw[F33e]at h
 unfold Kf
 refine ww ?_
 obtain⟨y1,hy1,h⟩:=bi h
 refine tO (enc:=aR) (xs:=xs) rfl rfl rfl hy1 (ww ?_)
 refine cD.rd (aQ hy1).2.1 (ww ?_)
 obtain⟨y2,hy2,h⟩:=bi h
 have qx:=q1 (bc hy1)
 refine lV (enc:=aR) (xs:=xs) rfl rfl rfl hy2 (ww ?_)
 refine cD.rd (aQ hy2).2.1 (ww ?_)
 obtain⟨t3,ht3,h⟩:=bi h
 have qx:=q2 (bc hy1) (bc hy2)
 refine cQ [] (F34_ok ht3) (ww ?_)
 cases h
 have qx:=q2 (bc hy1) (bc hy2)
 exact fI [XD 0] rfl
def F136_l1:List ag→Nat→Option ((Int) ⊕ (Unit))
 |[],o1_0=>XD (XI (()))
 |xo1::xs,o1_0=>(F88 xo1).bind fun t3=>(if xo1.bH=1 then(XD ((o1_0:Int))).map XJ else F136_l1 xs (o1_0+1))
def F136(x0:(List ag)):Option (Int):=(((ck (0≤x0.length∧x0.length≤4294967290)).bind fun u5=>F136_l1 x0 0:Option ((Int) ⊕ (Unit))).bind fun o1=>match o1 with|XJ f=>XD f|XI po1=>XD ((-1)))
def a136:dG:=⟨19,[(.tmp 4)],
 (.seq (.reg [Qe 4 0])
 (.seq (.seq (.reg [Qa 6 0,
Qh 7 6,
Qe 8 0])
 (.sem (.block 0 (.loop (.seq (.reg [Qn 9 8 7])
 (.seq (.cond (.t 9)
 .skip
 (.exit 0))
 (.seq (.block 1 (.seq (.reg [Qa 10 8,
Qa 5 10])
 (.seq (.reg [Qa 11 1,
Qa 12 0,
Qa 13 5,
Qp 14 7 12 13,
Qc 15 7 14,
zl 16 (.callv (.t 11) [(.t 15)]) [] [12,14]])
 (.cond (.t 16)
 (.seq (.reg [Qa 17 5,
Qa 4 17])
 .ret)
 .skip))))
 (.reg [Qm 18 8 1,
Qa 8 18]))))))))
 (.seq (.reg [sq 4 (.mv (kI (-1)))])
 .ret)))⟩
theorem F136_ok{x0 r}(h:F136 x0=XD r):aW XH 136 [.c (dM (x0.map aC)),.c (.fn 88 [])] [] (bJ [.c (dI r)]) []:=by
 rw[F136]at h
 refine zc a136 (by kernel_rfl) rfl (ww ?_)
 obtain⟨o1,ho,h⟩:=bi h
 refine bD (fun s=>∃po1,o1=XI po1∧s=⟨[],[]⟩) ?_ ?_
 ·have h0o1:=h
  have h:=ho
  obtain⟨_,hk,h⟩:=bi h
  have hk:=cr hk
  refine ww ?_
  refine bL (fun j s=>∃(o1_0:Nat),(o1_0≤x0.length∧j=x0.length-o1_0)∧s=⟨[(0,oM (x0.map aC)),(1,oc (.fn 88 [])),(7,oI (x0.length:Int)),(8,oI (o1_0:Int))],[]⟩∧F136_l1 (x0.drop o1_0) o1_0=XD o1) (x0.length-0) [] ⟨0,⟨hk.1,rfl⟩,rfl,h⟩ ?_
  rintro _ _ ⟨o1_0,⟨hi,rfl⟩,rfl,h⟩
  refine ww ?_
  refine dq (fun c2=>?_) (fun c2=>?_)
  ·obtain⟨xo1,hxo1,hd⟩:=cW (show(o1_0:Int)<(x0.length:Int)from c2)
   rw[hd,F136_l1]at h
   refine ww ?_
   refine bI (enc:=aC) (xs:=x0) rfl rfl hxo1 rfl (ww ?_)
   obtain⟨t3,ht3,h⟩:=bi h
   refine cN [] (F88_ok ht3) trivial (ww ?_)
   refine bG h (fun c4 h=>ww ?_) (fun c4 h=>ww ?_)
   ·obtain⟨fh0o1,hfh0o1,rfl⟩:=XG.1 h
    have h:=hfh0o1.trans h0o1
    cases h
    exact eF []
   rw[cL (by omega)]
   exact jo (x0.length-(o1_0+1)) [] ⟨o1_0+1,⟨by omega,rfl⟩,rfl,h⟩ (by omega)
  rw[cX (show¬((o1_0:Int)<(x0.length:Int))from c2),F136_l1]at h
  refine ww ?_
  cases h
  exact eM [] ⟨_,rfl,rfl⟩
 rintro _ ⟨po1,rfl,rfl⟩
 dsimp only at h
 refine ww ?_
 cases h
 exact eF []
def JW:AC:=(.reg [Qn 30 29 28])
def F37h(e1:Nat)(b0:aj)(mx:List Gv)(n:Int)(i:Int):Option (Unit):=XD (())
theorem F37h_ok{e1 b0 mx n i r}(h:F37h e1 b0 mx n i=XD r):sK XH 60 0 JW [] (sM 60 0 (fun s=>s=⟨[(3,Pz 0),(27,oc (ow 1 0 mx)),(28,oI n),(29,oI i),(30,oB (decide (i<n)))],[xb (aA b0 (ow 1 0 mx)),XD (.arr 0 36 (mx.map jC))]⟩) (xQ 60 0 (fun _ _=>False) (fun _=>False)))
 ⟨[(3,Pz 0),(27,oc (ow 1 e1 mx)),(28,oI n),(29,oI i)],[xb (aA b0 (ow 1 e1 mx)),XD (.arr e1 36 (mx.map jC))]⟩:=by
 rw[F37h]at h
 unfold JW
 refine ww ?_
 cases h
 exact eM i2 rfl
def JT:AC:=(.reg [Qm 58 29 1,
Qa 29 58])
def F37o(e1:Nat)(b0:aj)(mx:List Gv)(n:Int)(i:Int):Option (Unit):=XD (())
theorem F37o_ok{e1 b0 mx n i r}(h:F37o e1 b0 mx n i=XD r):sK XH 60 0 JT [] (sM 60 0 (fun s=>s=⟨[(3,Pz 0),(27,oc (ow 1 0 mx)),(28,oI n),(29,oI ((XC.wrap (i+1))))],[xb (aA b0 (ow 1 0 mx)),XD (.arr 0 36 (mx.map jC))]⟩) (xQ 60 0 (fun _ _=>False) (fun _=>False)))
 ⟨[(3,Pz 0),(27,oc (ow 1 e1 mx)),(28,oI n),(29,oI i)],[xb (aA b0 (ow 1 e1 mx)),XD (.arr e1 36 (mx.map jC))]⟩:=by
 rw[F37o]at h
 unfold JT
 refine ww ?_
 cases h
 exact eM i2 rfl
def JU:AC:=(.regd [Qb 42 32 5,
sd 43 (.load XF (.t 42)) [0],
zn 44 (.call 72 [(.t 43)]) [0,1] [0,1],
Qb 45 33 5,
sd 46 (.load XF (.t 45)) [3],
sd 47 (.call 73 [(.t 46)]) [0,1,2,3,4],
sd 48 (.fieldA 32 (.t 5)) [0,1,2,3,4],
⟨XF,XF,.store 1 (.t 48) (.t 44),[0,1,2,3,4,5,6],(.lone [])⟩,
sd 49 (.fieldA 33 (.t 5)) [0,1,2,3,4,5,6,7],
⟨XF,XF,.store 1 (.t 49) (.t 47),[0,1,2,3,4,5,6,7,8],(.lone [])⟩])
def F37l(e1:Nat)(b0:aj)(mx:List Gv)(n:Int)(i:Int)(x:af)(kc:List ag):Option ((List aF)×(List cp)):=(gw x.aK).bind fun t1=>(gw x.aq).bind fun t2=>XD ((t1,t2))
theorem F37l_ok{e1 b0 mx n i x kc r}(h:F37l e1 b0 mx n i x kc=XD r):sK XH 60 0 JU [] (sM 60 0 (fun s=>s=⟨[(3,Pz 0),(4,oI i),(5,Pz 2),(27,oc (ow 1 0 mx)),(28,oI n),(29,oI i)],[xb (aA b0 (ow 1 0 mx)),XD (.arr 0 36 (mx.map jC)),xb (bj x (ow 3 0 kc) (ow 4 0 r.1) (ow 5 0 r.2)),aE 0 kc,aU 0 r.1,bQ 0 r.2]⟩) (xQ 60 0 (fun _ _=>False) (fun _=>False)))
 ⟨[(3,Pz 0),(4,oI i),(5,Pz 2),(27,oc (ow 1 e1 mx)),(28,oI n),(29,oI i)],[xb (aA b0 (ow 1 e1 mx)),XD (.arr e1 36 (mx.map jC)),xb (tV x (ow 3 0 kc)),aE 0 kc]⟩:=by
 rw[F37l]at h
 unfold JU
 refine ww ?_
 obtain⟨t1,ht1,h⟩:=bi h
 refine cN [] (F72_ok ht1) trivial (ww ?_)
 refine iu (by simp[fE,gO,cH]) (ww ?_)
 obtain⟨t2,ht2,h⟩:=bi h
 refine cN [] (F73_ok ht2) trivial (ww ?_)
 refine iu (by simp[fE,gO,cH]) (ww ?_)
 cases h
 exact eM i6 rfl
def JS:AC:=(.reg [Qa 59 3,
Qa 2 59])
def F37z(e1:Nat)(b0:aj)(mx:List Gv):Option (Unit):=XD (())
theorem F37z_ok{e1 b0 mx r}(h:F37z e1 b0 mx=XD r):sK XH 60 0 JS [] (sM 60 0 (fun s=>s=⟨[(2,Pz 0)],[xb (aA b0 (ow 1 0 mx)),XD (.arr 0 36 (mx.map jC))]⟩) (xQ 60 0 (fun _ _=>False) (fun _=>False)))
 ⟨[(3,Pz 0)],[xb (aA b0 (ow 1 e1 mx)),XD (.arr e1 36 (mx.map jC))]⟩:=by
 rw[F37z]at h
 unfold JS
 refine ww ?_
 cases h
 exact eM i2 rfl
def DE:AC:=(.reg [Qa 43 5,
Qa 44 5,
Qb 45 0 44,
Qb 46 0 45,
Qb 47 25 46,
Qd 48 47,
Qa 49 6,
Qa 50 6,
Qm 51 50 1,
sq 52 (.call 40 [(.t 48),(.t 49),(.t 51)]),
Qb 53 0 43,
Qb 54 0 53,
Qb 55 25 54,
su (.store 1 (.t 55) (.t 52))])
def F10rd(e1:Nat)(b0:aj)(pods:List au)(v:aN)(k:Int):Option ((List au)):=(oz pods k ((XC.wrap (k+1)))).bind fun t1=>XD t1
theorem F10rd_ok{e1 b0 pods v k r}(h:F10rd e1 b0 pods v k=XD r):sK XH 86 0 DE [] (sM 86 0 (fun s=>s=⟨[(3,Pz 0),(4,Pz 1),(5,Pz 2)],[xb (aZ v),xb gx,xb (aA b0 (ow 3 0 r)),ai 0 r]⟩) (xQ 86 0 (fun _ _=>False) (fun _=>False)))
 ⟨[(3,Pz 0),(4,Pz 1),(5,Pz 2),(6,oI k)],[xb (aZ v),xb gx,xb (aA b0 (ow 3 e1 pods)),ai e1 pods]⟩:=by
 rw[F10rd]at h
 unfold DE
 refine ww ?_
 obtain⟨t1,ht1,h⟩:=bi h
 refine cN [3] (F40_ok (e0:=e1) ht1) ⟨⟨rfl,trivial⟩,trivial⟩ ?_
 refine ww ?_
 cases h
 exact eM i4 rfl
end Go.Proofs.YtojbebejhgbfeaaGreat
