/- Each Go function as a function over typed data, and its walk. -/
import Derived.Test.YtondgcmdhkhkkaaGreatAX
import Derived.Test.YtondgcmdhkhkkaaGreatAX2
import Derived.Test.YtondgcmdhkhkkaaGreatAX3
import Derived.Test.YtondgcmdhkhkkaaGreatAX4
import Derived.Test.YtondgcmdhkhkkaaGreatAX5
namespace Go.Proofs.YtondgcmdhkhkkaaGreat
open Go Go.Fw Go.Shelf
set_option maxRecDepth 100000
set_option maxHeartbeats 4000000
set_option linter.unusedSimpArgs false
set_option linter.unusedVariables false
def F127(x0:ByteArray)(x1:ByteArray):Option (Int):=(cmpS x0 x1).bind fun t1=>some t1
def a127:AFn:=⟨8,[(.tmp 4)],
 (.seq (.reg [sq 4 (.mv (kI 0))])
 (.seq (.reg [sq 5 (.mv (.t 0)),
sq 6 (.mv (.t 1)),
sq 7 (.call 140 [(.t 5),(.t 6)]),
sq 4 (.mv (.t 7))])
 .ret))⟩
theorem a127_ok:afn Tryz.prog 127=some a127.er:=by kernel_rfl
theorem F127_ok{x0 x1 r}(h:F127 x0 x1=some r):CallD Tryz.prog 127 [.c (dS x0),.c (dS x1)] [] (tupV [.c (dI r)]) []:=by
 refine callS a127_ok (by simp[a127]) ?_
 rw[F127]at h
 simp only[a127,VW.down,Nat.reduceEqDiff,reduceCtorEq,Nat.reduceAdd,Nat.reduceLeDiff,Nat.reduceLT,Nat.reduceBEq,Nat.reduceSub,EE.down]
 obtain⟨t1,ht1,h⟩:=bi h
 refine cN [] (F140_ok ht1) trivial (ww ?_)
 cases h
 exact eF []
def F97_l2(rc34:TValue→Option ((List TValue)×(List TField))):List TValue→Nat→(List TValue)→Option ((List TValue))
 |[],o2_1,o2_0=>some o2_0
 |xo2::xs,o2_1,o2_0=>(rdI o2_0 ((o2_1:Int))).bind fun y4=>(rc34 y4).bind fun t5=>(rdI o2_0 ((o2_1:Int))).bind fun y6=>F97_l2 rc34 xs (o2_1+1) ((o2_0.set ((o2_1:Int)).toNat ((⟨y4.Kind,y4.N,y4.S,t5.1,t5.2⟩:TValue))))
def F97_l9(rc34:TValue→Option ((List TValue)×(List TField))):List TField→Nat→(List TField)→Option ((List TField))
 |[],o9_1,o9_0=>some o9_0
 |xo9::xs,o9_1,o9_0=>(rdI o9_0 ((o9_1:Int))).bind fun y11=>(rc34 y11.V).bind fun t12=>(rdI o9_0 ((o9_1:Int))).bind fun y13=>F97_l9 rc34 xs (o9_1+1) ((o9_0.set ((o9_1:Int)).toNat ((⟨y13.Name,(⟨y11.V.Kind,y11.V.N,y11.V.S,t12.1,t12.2⟩:TValue)⟩:TField))))
def F97(rc34:TValue→Option ((List TValue)×(List TField)))(x0:TValue):Option ((List TValue)×(List TField)):=(cloneI x0.List_).bind fun t1=>(((ck (0≤t1.length∧t1.length≤4294967290)).bind fun u7=>F97_l2 rc34 t1 0 t1).bind fun o2=>(cloneI x0.Fields).bind fun t8=>(((ck (0≤t8.length∧t8.length≤4294967290)).bind fun u14=>F97_l9 rc34 t8 0 t8).bind fun o9=>some ((o2,o9))))
def a97:AFn:=⟨48,[(.cell 2 (some 5))],
 (.seq (.reg [sq 1 (.box (.t 0)),
sq 2 (.zbox [dI 0,dI 0,dS ⟨#[]⟩,dN,dN])])
 (.seq (.reg [sq 7 (.fieldA 3 (.t 1)),
sq 8 (.load none (.t 7)),
sq 9 (.call 120 [(.t 8)]),
sq 10 (.fieldA 3 (.t 1)),
su (.store 1 (.t 10) (.t 9))])
 (.seq (.seq (.reg [sq 11 (.fieldA 3 (.t 1)),
sq 12 (.load none (.t 11)),
sq 13 (.len (.t 12)),
sq 14 (.mv (kI 0))])
 (.sem (.block 0 (.loop (.seq (.reg [sq 15 (.bin .lss (.t 14) (.t 13))])
 (.seq (.cond (.t 15)
 .skip
 (.exit 0))
 (.seq (.block 1 (.seq (.reg [sq 16 (.mv (.t 14)),
sq 17 (.indexA 5 (.t 12) (.t 14)),
sq 18 (.load (some 5) (.t 17)),
sq 4 (.zbox [dI 0,dI 0,dS ⟨#[]⟩,dN,dN]),
sq 3 (.mv (.t 16)),
su (.store 5 (.t 4) (.t 18))])
 (.regd [sq 19 (.fieldA 3 (.t 1)),
sd 20 (.load none (.t 19)) [0],
sq 21 (.mv (.t 3)),
sq 22 (.load (some 5) (.t 4)),
zl 23 (.call 97 [(.t 22)]) [3] [1,19],
sd 24 (.indexA 5 (.t 20) (.t 21)) [0,1,2,3,4],
⟨none,none,.store 5 (.t 24) (.t 23),[0,1,2,3,4,5],(.lone [])⟩])))
 (.reg [sq 25 (.bin .add (.t 14) (kI 1)),
sq 14 (.mv (.t 25))]))))))))
 (.seq (.reg [sq 26 (.fieldA 4 (.t 1)),
sq 27 (.load none (.t 26)),
sq 28 (.call 121 [(.t 27)]),
sq 29 (.fieldA 4 (.t 1)),
su (.store 1 (.t 29) (.t 28))])
 (.seq (.seq (.reg [sq 30 (.fieldA 4 (.t 1)),
sq 31 (.load none (.t 30)),
sq 32 (.len (.t 31)),
sq 33 (.mv (kI 0))])
 (.sem (.block 2 (.loop (.seq (.reg [sq 34 (.bin .lss (.t 33) (.t 32))])
 (.seq (.cond (.t 34)
 .skip
 (.exit 2))
 (.seq (.block 3 (.seq (.reg [sq 35 (.mv (.t 33)),
sq 36 (.indexA 6 (.t 31) (.t 33)),
sq 37 (.load (some 6) (.t 36)),
sq 6 (.zbox [dS ⟨#[]⟩,dI 0,dI 0,dS ⟨#[]⟩,dN,dN]),
sq 5 (.mv (.t 35)),
su (.store 6 (.t 6) (.t 37))])
 (.regd [sq 38 (.fieldA 4 (.t 1)),
sd 39 (.load none (.t 38)) [0],
sq 40 (.mv (.t 5)),
sq 41 (.fieldA 1 (.t 6)),
sd 42 (.load (some 5) (.t 41)) [3],
zl 43 (.call 97 [(.t 42)]) [3,4] [1,38],
sd 44 (.indexA 6 (.t 39) (.t 40)) [0,1,2,3,4,5],
sd 45 (.fieldA 1 (.t 44)) [0,1,2,3,4,5,6],
⟨none,none,.store 5 (.t 45) (.t 43),[0,1,2,3,4,5,6,7],(.lone [])⟩])))
 (.reg [sq 46 (.bin .add (.t 33) (kI 1)),
sq 33 (.mv (.t 46))]))))))))
 (.seq (.reg [sq 47 (.load (some 5) (.t 1)),
⟨none,none,.store 5 (.t 2) (.t 47),[],(.lone [1])⟩])
 .ret))))))⟩
theorem a97_ok:afn Tryz.prog 97=some a97.er:=by kernel_rfl
theorem F97_ok{rc34:TValue→Option ((List TValue)×(List TField))}(ih34:∀{x0:TValue} {r:(List TValue)×(List TField)} (h:rc34 x0=some r),CallD Tryz.prog 97 [.agg [dI x0.Kind,dI x0.N,dS x0.S,dM (x0.List_.map eTValue),dM (x0.Fields.map eTField)]] [] (tupV [.agg [dI x0.Kind,dI x0.N,dS x0.S,.own 0 0 0 (r.1.length) none,.own 1 0 0 (r.2.length) none]]) [some (.arr 0 5 (r.1.map eTValue)),some (.arr 0 6 (r.2.map eTField))]){x0:TValue}{r:(List TValue)×(List TField)}(h:F97 rc34 x0=some r):CallD Tryz.prog 97 [.agg [dI x0.Kind,dI x0.N,dS x0.S,dM (x0.List_.map eTValue),dM (x0.Fields.map eTField)]] [] (tupV [.agg [dI x0.Kind,dI x0.N,dS x0.S,.own 0 0 0 (r.1.length) none,.own 1 0 0 (r.2.length) none]]) [some (.arr 0 5 (r.1.map eTValue)),some (.arr 0 6 (r.2.map eTField))]:=by
 refine callS a97_ok (by simp[a97]) ?_
 rw[F97]at h
 simp only[a97,VW.down,Nat.reduceEqDiff,reduceCtorEq,Nat.reduceAdd,Nat.reduceLeDiff,Nat.reduceLT,Nat.reduceBEq,Nat.reduceSub,EE.down]
 obtain⟨t1,ht1,h⟩:=bi h
 refine cN [] (F120_ok ht1) trivial (ww ?_)
 obtain⟨o2,ho,h⟩:=bi h
 refine cutS (fun s=>s=⟨[(1,.one (.c (.pt 0 0))),(2,.one (.c (.pt 2 0)))],[some (.box [dI x0.Kind,dI x0.N,dS x0.S,.own 1 0 0 (o2.length) none,dM (x0.Fields.map eTField)]),some (.arr 0 5 (o2.map eTValue)),some (.box [dI 0,dI 0,dS ((⟨#[]⟩:ByteArray)),dN,dN])]⟩) ?_ ?_
 ·have h:=ho
  clear ho
  obtain⟨_,hk,h⟩:=bi h
  have hk:=ck_some hk
  refine ww ?_
  refine bL (fun j s=>∃(o2_1:Nat) (o2_0:List TValue),(o2_1≤t1.length∧j=t1.length-o2_1)∧s=⟨[(1,.one (.c (.pt 0 0))),(2,.one (.c (.pt 2 0))),(12,.one (.c (.own 1 0 0 (o2_0.length) none))),(13,.one (.c (dI ((t1.length:Int))))),(14,.one (.c (dI ((o2_1:Int)))))],[some (.box [dI x0.Kind,dI x0.N,dS x0.S,.own 1 0 0 (o2_0.length) none,dM (x0.Fields.map eTField)]),some (.arr 0 5 (o2_0.map eTValue)),some (.box [dI 0,dI 0,dS ((⟨#[]⟩:ByteArray)),dN,dN])]⟩∧F97_l2 rc34 (t1.drop o2_1) o2_1 o2_0=some o2) (t1.length-0) [some 0,some 2,some 1] ⟨0,t1,⟨hk.1,rfl⟩,rfl,h⟩ ?_
  rintro _ _ ⟨o2_1,o2_0,⟨hi,rfl⟩,rfl,h⟩
  refine ww ?_
  refine condS (fun c3=>?_) (fun c3=>?_)
  ·obtain⟨xo2,hxo2,hd⟩:=countY (show(o2_1:Int)<(t1.length:Int)from c3)
   rw[hd,F97_l2]at h
   refine ww ?_
   obtain⟨y4,hy4,h⟩:=bi h
   refine t_idxO (enc:=eTValue) (xs:=o2_0) rfl rfl rfl (by first|rfl|simp only[List.length_set]|exact(clrL_len (slI_len (by assumption))).symm) hy4 (ww ?_)
   refine LdRow.rd (rdI_some hy4).2.1 (ww ?_)
   obtain⟨t5,ht5,h⟩:=bi h
   refine cN [] (ih34 ht5) trivial (ww ?_)
   obtain⟨y6,hy6,h⟩:=bi h
   refine t_idxO (enc:=eTValue) (xs:=o2_0) rfl rfl rfl (by first|rfl|simp only[List.length_set]|exact(clrL_len (slI_len (by assumption))).symm) hy6 (ww ?_)
   refine StRow.rd (y':=(⟨y4.Kind,y4.N,y4.S,t5.1,t5.2⟩:TValue)) (rdI_some hy6).2.1 (by simp[EE.down]) (by first|rfl|(simp only[bor_full'];rfl)|(simp only[eTValue_u,bor_full'];rfl)) (ww ?_)
   rw[wrapN (by omega)]
   exact eL' (t1.length-(o2_1+1)) [some 0,some 1,some 2] ⟨o2_1+1,(o2_0.set ((o2_1:Int)).toNat ((⟨y4.Kind,y4.N,y4.S,t5.1,t5.2⟩:TValue))),⟨by omega,rfl⟩,rfl,h⟩ (by omega)
  rw[countN (show¬((o2_1:Int)<(t1.length:Int))from c3),F97_l2]at h
  refine ww ?_
  cases h
  exact eM [some 0,some 1,some 2] rfl
 rintro _ rfl
 clear ho
 refine ww ?_
 obtain⟨t8,ht8,h⟩:=bi h
 refine cN [] (F121_ok ht8) trivial (ww ?_)
 obtain⟨o9,ho,h⟩:=bi h
 refine cutS (fun s=>s=⟨[(1,.one (.c (.pt 0 0))),(2,.one (.c (.pt 3 0)))],[some (.box [dI x0.Kind,dI x0.N,dS x0.S,.own 1 0 0 (o2.length) none,.own 2 0 0 (o9.length) none]),some (.arr 0 5 (o2.map eTValue)),some (.arr 0 6 (o9.map eTField)),some (.box [dI 0,dI 0,dS ((⟨#[]⟩:ByteArray)),dN,dN])]⟩) ?_ ?_
 ·have h:=ho
  clear ho
  obtain⟨_,hk,h⟩:=bi h
  have hk:=ck_some hk
  refine ww ?_
  refine bL (fun j s=>∃(o9_1:Nat) (o9_0:List TField),(o9_1≤t8.length∧j=t8.length-o9_1)∧s=⟨[(1,.one (.c (.pt 0 0))),(2,.one (.c (.pt 3 0))),(31,.one (.c (.own 2 0 0 (o9_0.length) none))),(32,.one (.c (dI ((t8.length:Int))))),(33,.one (.c (dI ((o9_1:Int)))))],[some (.box [dI x0.Kind,dI x0.N,dS x0.S,.own 1 0 0 (o2.length) none,.own 2 0 0 (o9_0.length) none]),some (.arr 0 5 (o2.map eTValue)),some (.arr 0 6 (o9_0.map eTField)),some (.box [dI 0,dI 0,dS ((⟨#[]⟩:ByteArray)),dN,dN])]⟩∧F97_l9 rc34 (t8.drop o9_1) o9_1 o9_0=some o9) (t8.length-0) [some 0,some 1,some 3,some 2] ⟨0,t8,⟨hk.1,rfl⟩,rfl,h⟩ ?_
  rintro _ _ ⟨o9_1,o9_0,⟨hi,rfl⟩,rfl,h⟩
  refine ww ?_
  refine condS (fun c10=>?_) (fun c10=>?_)
  ·obtain⟨xo9,hxo9,hd⟩:=countY (show(o9_1:Int)<(t8.length:Int)from c10)
   rw[hd,F97_l9]at h
   refine ww ?_
   obtain⟨y11,hy11,h⟩:=bi h
   refine t_idxO (enc:=eTField) (xs:=o9_0) rfl rfl rfl (by first|rfl|simp only[List.length_set]|exact(clrL_len (slI_len (by assumption))).symm) hy11 (ww ?_)
   refine LdRow.rd (rdI_some hy11).2.1 (ww ?_)
   obtain⟨t12,ht12,h⟩:=bi h
   refine cN [] (ih34 ht12) trivial (ww ?_)
   obtain⟨y13,hy13,h⟩:=bi h
   refine t_idxO (enc:=eTField) (xs:=o9_0) rfl rfl rfl (by first|rfl|simp only[List.length_set]|exact(clrL_len (slI_len (by assumption))).symm) hy13 (ww ?_)
   refine StRow.rd (y':=(⟨y13.Name,(⟨y11.V.Kind,y11.V.N,y11.V.S,t12.1,t12.2⟩:TValue)⟩:TField)) (rdI_some hy13).2.1 (by simp[EE.down]) (by first|rfl|(simp only[bor_full'];rfl)|(simp only[eTField_u,bor_full'];rfl)) (ww ?_)
   rw[wrapN (by omega)]
   exact eL' (t8.length-(o9_1+1)) [some 0,some 1,some 2,some 3] ⟨o9_1+1,(o9_0.set ((o9_1:Int)).toNat ((⟨y13.Name,(⟨y11.V.Kind,y11.V.N,y11.V.S,t12.1,t12.2⟩:TValue)⟩:TField))),⟨by omega,rfl⟩,rfl,h⟩ (by omega)
  rw[countN (show¬((o9_1:Int)<(t8.length:Int))from c10),F97_l9]at h
  refine ww ?_
  cases h
  exact eM [some 0,some 1,some 2,some 3] rfl
 rintro _ rfl
 clear ho
 refine ww ?_
 cases h
 exact eF [some 1,some 2]
def F97k:Nat→TValue→Option ((List TValue)×(List TField))
 |0=>fun _=>none
 |k+1=>F97 (F97k k)
theorem F97k_ok(k:Nat){x0:TValue}{r:(List TValue)×(List TField)}(h:F97k k x0=some r):CallD Tryz.prog 97 [.agg [dI x0.Kind,dI x0.N,dS x0.S,dM (x0.List_.map eTValue),dM (x0.Fields.map eTField)]] [] (tupV [.agg [dI x0.Kind,dI x0.N,dS x0.S,.own 0 0 0 (r.1.length) none,.own 1 0 0 (r.2.length) none]]) [some (.arr 0 5 (r.1.map eTValue)),some (.arr 0 6 (r.2.map eTField))]:=by
 induction k generalizing x0 r with
 |zero=>cases(show(none:Option ((List TValue)×(List TField)))=some _ from h)
 |succ k ih=>exact F97_ok (fun h=>ih h) h
def F35_l2:List Requirement→Nat→(List Requirement)→Option ((List Requirement))
 |[],o2_1,o2_0=>some o2_0
 |xo2::xs,o2_1,o2_0=>(rdI o2_0 ((o2_1:Int))).bind fun y4=>(cloneI y4.Values).bind fun t5=>(rdI o2_0 ((o2_1:Int))).bind fun y6=>F35_l2 xs (o2_1+1) ((o2_0.set ((o2_1:Int)).toNat ((⟨y6.Key,y6.Op,t5⟩:Requirement))))
def F35(x0:Filter):Option ((List Requirement)):=(cloneI x0.Selector).bind fun t1=>(((ck (0≤t1.length∧t1.length≤4294967290)).bind fun u7=>F35_l2 t1 0 t1).bind fun o2=>some o2)
def a35:AFn:=⟨27,[(.cell 2 (some 3))],
 (.seq (.reg [sq 1 (.box (.t 0)),
sq 2 (.zbox [dS ⟨#[]⟩,dS ⟨#[]⟩,dN])])
 (.seq (.reg [sq 5 (.fieldA 2 (.t 1)),
sq 6 (.load none (.t 5)),
sq 7 (.call 68 [(.t 6)]),
sq 8 (.fieldA 2 (.t 1)),
su (.store 1 (.t 8) (.t 7))])
 (.seq (.seq (.reg [sq 9 (.fieldA 2 (.t 1)),
sq 10 (.load none (.t 9)),
sq 11 (.len (.t 10)),
sq 12 (.mv (kI 0))])
 (.sem (.block 0 (.loop (.seq (.reg [sq 13 (.bin .lss (.t 12) (.t 11))])
 (.seq (.cond (.t 13)
 .skip
 (.exit 0))
 (.seq (.block 1 (.seq (.reg [sq 14 (.mv (.t 12)),
sq 15 (.indexA 3 (.t 10) (.t 12)),
sq 16 (.load (some 3) (.t 15)),
sq 4 (.zbox [dS ⟨#[]⟩,dI 0,dN]),
sq 3 (.mv (.t 14)),
su (.store 3 (.t 4) (.t 16))])
 (.regd [sq 17 (.fieldA 2 (.t 1)),
sd 18 (.load none (.t 17)) [0],
sq 19 (.mv (.t 3)),
sq 20 (.fieldA 2 (.t 4)),
sd 21 (.load none (.t 20)) [3],
zl 22 (.call 69 [(.t 21)]) [3,4] [1,17],
sd 23 (.indexA 3 (.t 18) (.t 19)) [0,1,2,3,4,5],
sd 24 (.fieldA 2 (.t 23)) [0,1,2,3,4,5,6],
⟨none,none,.store 1 (.t 24) (.t 22),[0,1,2,3,4,5,6,7],(.lone [])⟩])))
 (.reg [sq 25 (.bin .add (.t 12) (kI 1)),
sq 12 (.mv (.t 25))]))))))))
 (.seq (.reg [sq 26 (.load (some 3) (.t 1)),
⟨none,none,.store 3 (.t 2) (.t 26),[],(.lone [1])⟩])
 .ret))))⟩
theorem a35_ok:afn Tryz.prog 35=some a35.er:=by kernel_rfl
theorem F35_ok{x0 r}(h:F35 x0=some r):CallD Tryz.prog 35 [.agg [dS x0.Kind,dS x0.Namespace,dM (x0.Selector.map eRequirement)]] [] (tupV [.agg [dS x0.Kind,dS x0.Namespace,.own 0 0 0 (r.length) none]]) [some (.arr 0 3 (r.map eRequirement))]:=by
 refine callS a35_ok (by simp[a35]) ?_
 rw[F35]at h
 simp only[a35,VW.down,Nat.reduceEqDiff,reduceCtorEq,Nat.reduceAdd,Nat.reduceLeDiff,Nat.reduceLT,Nat.reduceBEq,Nat.reduceSub,EE.down]
 obtain⟨t1,ht1,h⟩:=bi h
 refine cN [] (F68_ok ht1) trivial (ww ?_)
 obtain⟨o2,ho,h⟩:=bi h
 refine cutS (fun s=>s=⟨[(1,.one (.c (.pt 0 0))),(2,.one (.c (.pt 2 0)))],[some (.box [dS x0.Kind,dS x0.Namespace,.own 1 0 0 (o2.length) none]),some (.arr 0 3 (o2.map eRequirement)),some (.box [dS ((⟨#[]⟩:ByteArray)),dS ((⟨#[]⟩:ByteArray)),dN])]⟩) ?_ ?_
 ·have h:=ho
  clear ho
  obtain⟨_,hk,h⟩:=bi h
  have hk:=ck_some hk
  refine ww ?_
  refine bL (fun j s=>∃(o2_1:Nat) (o2_0:List Requirement),(o2_1≤t1.length∧j=t1.length-o2_1)∧s=⟨[(1,.one (.c (.pt 0 0))),(2,.one (.c (.pt 2 0))),(10,.one (.c (.own 1 0 0 (o2_0.length) none))),(11,.one (.c (dI ((t1.length:Int))))),(12,.one (.c (dI ((o2_1:Int)))))],[some (.box [dS x0.Kind,dS x0.Namespace,.own 1 0 0 (o2_0.length) none]),some (.arr 0 3 (o2_0.map eRequirement)),some (.box [dS ((⟨#[]⟩:ByteArray)),dS ((⟨#[]⟩:ByteArray)),dN])]⟩∧F35_l2 (t1.drop o2_1) o2_1 o2_0=some o2) (t1.length-0) [some 0,some 2,some 1] ⟨0,t1,⟨hk.1,rfl⟩,rfl,h⟩ ?_
  rintro _ _ ⟨o2_1,o2_0,⟨hi,rfl⟩,rfl,h⟩
  refine ww ?_
  refine condS (fun c3=>?_) (fun c3=>?_)
  ·obtain⟨xo2,hxo2,hd⟩:=countY (show(o2_1:Int)<(t1.length:Int)from c3)
   rw[hd,F35_l2]at h
   refine ww ?_
   obtain⟨y4,hy4,h⟩:=bi h
   refine t_idxO (enc:=eRequirement) (xs:=o2_0) rfl rfl rfl (by first|rfl|simp only[List.length_set]|exact(clrL_len (slI_len (by assumption))).symm) hy4 (ww ?_)
   refine LdRow.rd (rdI_some hy4).2.1 (ww ?_)
   obtain⟨t5,ht5,h⟩:=bi h
   refine cN [] (F69_ok ht5) trivial (ww ?_)
   obtain⟨y6,hy6,h⟩:=bi h
   refine t_idxO (enc:=eRequirement) (xs:=o2_0) rfl rfl rfl (by first|rfl|simp only[List.length_set]|exact(clrL_len (slI_len (by assumption))).symm) hy6 (ww ?_)
   refine StRow.rd (y':=(⟨y6.Key,y6.Op,t5⟩:Requirement)) (rdI_some hy6).2.1 (by simp[EE.down]) (by first|rfl|(simp only[bor_full'];rfl)) (ww ?_)
   rw[wrapN (by omega)]
   exact eL' (t1.length-(o2_1+1)) [some 0,some 1,some 2] ⟨o2_1+1,(o2_0.set ((o2_1:Int)).toNat ((⟨y6.Key,y6.Op,t5⟩:Requirement))),⟨by omega,rfl⟩,rfl,h⟩ (by omega)
  rw[countN (show¬((o2_1:Int)<(t1.length:Int))from c3),F35_l2]at h
  refine ww ?_
  cases h
  exact eM [some 0,some 1,some 2] rfl
 rintro _ rfl
 clear ho
 refine ww ?_
 cases h
 exact eF [some 1]
def F75(x0:Meta):Option (ByteArray):=(F98 x0.Kind x0.Namespace x0.Name).bind fun t1=>some t1
def a75:AFn:=⟨10,[(.tmp 2)],
 (.seq (.reg [sq 1 (.box (.t 0)),
sq 2 (.mv (kS ⟨#[]⟩))])
 (.seq (.reg [sq 3 (.fieldA 0 (.t 1)),
sq 4 (.load none (.t 3)),
sq 5 (.fieldA 1 (.t 1)),
sq 6 (.load none (.t 5)),
sq 7 (.fieldA 2 (.t 1)),
sq 8 (.load none (.t 7)),
sq 9 (.call 98 [(.t 4),(.t 6),(.t 8)]),
sq 2 (.mv (.t 9))])
 .ret))⟩
theorem a75_ok:afn Tryz.prog 75=some a75.er:=by kernel_rfl
theorem F75_ok{x0 r}(h:F75 x0=some r):CallD Tryz.prog 75 [.agg [dS x0.Kind,dS x0.Namespace,dS x0.Name,dI x0.Uid,dI x0.Version,dI x0.Generation,dI x0.Created,dB x0.Deleting,dI x0.DeleteAt,dM (x0.Labels.map eLabel),dM (x0.Owners.map eOwner),dM (x0.Finalizers.map eS),dM (x0.Managers.map eManager)]] [] (tupV [.c (dS r)]) []:=by
 refine callS a75_ok (by simp[a75]) ?_
 rw[F75]at h
 simp only[a75,VW.down,Nat.reduceEqDiff,reduceCtorEq,Nat.reduceAdd,Nat.reduceLeDiff,Nat.reduceLT,Nat.reduceBEq,Nat.reduceSub,EE.down]
 obtain⟨t1,ht1,h⟩:=bi h
 refine cN [] (F98_ok ht1) trivial (ww ?_)
 cases h
 exact eF []
def F119_l2(x0:ByteArray):Nat→Int→Option ((Bool) ⊕ (Unit))
 |0,_=>none
 |k+1,o2_0=>(if o2_0<(x0.size:Int)then(((byI x0 o2_0).bind fun y5=>(F139 y5).bind fun t6=>(if(nb t6)=true then some true else(byI x0 o2_0).bind fun y8=>some (decide (y8=47)))).bind fun o4=>(if o4=true then(some false).map Sum.inl else F119_l2 x0 k ((IntKind.i64.wrap (o2_0+1)))))else some (Sum.inr (())))
def F119(x0:ByteArray):Option (Bool):=(if 40<(x0.size:Int)then some false else((F119_l2 x0 1099511627776 0:Option ((Bool) ⊕ (Unit))).bind fun o2=>match o2 with|Sum.inl f=>some f|Sum.inr po2=>some true))
def a119:AFn:=⟨24,[(.tmp 2)],
 (.seq (.reg [sq 2 (.mv (kB false))])
 (.seq (.seq (.reg [sq 4 (.mv (.t 0)),
sq 5 (.slen (.t 4)),
sq 6 (.bin .gtr (.t 5) (kI 40))])
 (.cond (.t 6)
 (.seq (.reg [sq 2 (.mv (kB false))])
 .ret)
 .skip))
 (.seq (.seq (.reg [sq 3 (.mv (kI 0))])
 (.sem (.block 0 (.loop (.seq (.seq (.reg [sq 7 (.mv (.t 3)),
sq 8 (.mv (.t 0)),
sq 9 (.slen (.t 8)),
sq 10 (.bin .lss (.t 7) (.t 9))])
 (.cond (.t 10)
 .skip
 (.exit 0)))
 (.seq (.block 1 (.seq (.sem (.reg [sq 13 (.mv (.t 0)),
sq 14 (.mv (.t 3)),
sq 15 (.sidx (.t 13) (.t 14)),
sq 16 (.call 139 [(.t 15)]),
sq 17 (.not (.t 16)),
sq 18 (.mv (.t 17)),
zg 19 18 false (.mv (.t 0)),
zg 20 18 false (.mv (.t 3)),
zg 21 18 false (.sidx (.t 19) (.t 20)),
zg 22 18 false (.bin .eql (.t 21) (.k (.c (.d (.v (.int .u8 47)))))),
sq 23 (.pick (.t 18) (kB true) (.t 22))]))
 (.cond (.t 23)
 (.seq (.reg [sq 2 (.mv (kB false))])
 .ret)
 .skip)))
 (.reg [sq 11 (.mv (.t 3)),
sq 12 (.bin .add (.t 11) (kI 1)),
sq 3 (.mv (.t 12))])))))))
 (.seq (.reg [sq 2 (.mv (kB true))])
 .ret))))⟩
theorem a119_ok:afn Tryz.prog 119=some a119.er:=by kernel_rfl
theorem F119_ok{x0 r}(h:F119 x0=some r):CallD Tryz.prog 119 [.c (dS x0)] [] (tupV [.c (dB r)]) []:=by
 refine callS a119_ok (by simp[a119]) ?_
 rw[F119]at h
 simp only[a119,VW.down,Nat.reduceEqDiff,reduceCtorEq,Nat.reduceAdd,Nat.reduceLeDiff,Nat.reduceLT,Nat.reduceBEq,Nat.reduceSub,EE.down]
 refine condSh h (fun c1 h=>?_) (fun c1 h=>?_)
 ·refine ww ?_
  cases h
  exact eF []
 refine ww ?_
 obtain⟨o2,ho,h⟩:=bi h
 refine cutS (fun s=>∃po2,o2=Sum.inr po2∧s=⟨[],[]⟩) ?_ ?_
 ·have h0o2:=h
  have h:=ho
  clear ho
  refine ww ?_
  refine bL (fun j s=>∃(o2_0:Int),s=⟨[(0,.one (.c (dS x0))),(3,.one (.c (dI o2_0)))],[]⟩∧F119_l2 x0 j o2_0=some o2) 1099511627776 [] ⟨0,rfl,h⟩ ?_
  rintro j _ ⟨o2_0,rfl,h⟩
  cases j with
  |zero=>cases(show(none:Option _)=some _ from h)
  |succ j=>
   rw[F119_l2]at h
   refine ww ?_
   refine condSh h (fun c3 h=>?_) (fun c3 h=>?_)
   ·refine ww ?_
    obtain⟨o4,ho,h⟩:=bi h
    refine cutS (fun s=>s=⟨[(0,.one (.c (dS x0))),(3,.one (.c (dI o2_0))),(23,.one (.c (dB o4)))],[]⟩) ?_ ?_
    ·have h:=ho
     clear ho
     refine ww ?_
     obtain⟨y5,hy5,h⟩:=bi h
     refine t_sidx rfl rfl hy5 (ww ?_)
     obtain⟨t6,ht6,h⟩:=bi h
     refine cN [] (F139_ok ht6) trivial (ww ?_)
     refine guardSBh h (fun g7 h=>?_) (fun g7 h=>?_)
     ·refine ww ?_
      cases h
      exact eM [] rfl
     ·refine ww ?_
      obtain⟨y8,hy8,h⟩:=bi h
      refine t_sidx rfl rfl hy8 (ww ?_)
      cases h
      exact eM [] rfl
    ·rintro _ rfl
     clear ho
     refine ww ?_
     refine condBh h (fun c9 h=>?_) (fun c9 h=>?_)
     ·refine ww ?_
      obtain⟨fh0o2,hfh0o2,rfl⟩:=Option.map_eq_some_iff.1 h
      have h:=hfh0o2.trans h0o2
      cases h
      exact eF []
     ·refine ww ?_
      exact eL' j [] ⟨(IntKind.i64.wrap (o2_0+1)),rfl,h⟩ (Nat.lt_succ_self _)
   ·refine ww ?_
    cases h
    exact eM [] ⟨_,rfl,rfl⟩
 rintro _ ⟨po2,rfl,rfl⟩
 clear ho
 dsimp only at h
 refine ww ?_
 cases h
 exact eF []
def F101(x0:Requirement)(x1:(List Label)):Option (Bool):=(F123 x1 x0.Key).bind fun t1=>(if x0.Op=1 then(((if t1.2=true then(F124 x0.Values t1.1).bind fun t5=>some t5 else some false)).bind fun o3=>some o3)else(if x0.Op=2 then(((if(nb t1.2)=true then some true else(F124 x0.Values t1.1).bind fun t9=>some (nb t9))).bind fun o7=>some o7)else(((if x0.Op=3 then(if t1.2=true then some true else(if x0.Op=4 then some (nb t1.2)else some false))else(if x0.Op=4 then some (nb t1.2)else some false))).bind fun o10=>some o10)))
def a101:AFn:=⟨51,[(.tmp 4)],
 (.seq (.reg [sq 2 (.box (.t 0)),
sq 4 (.mv (kB false))])
 (.seq (.reg [sq 8 (.mv (.t 1)),
sq 9 (.fieldA 0 (.t 2)),
sq 10 (.load none (.t 9)),
sq 11 (.call 123 [(.t 8),(.t 10)]),
sq 7 (.mv (.t 11)),
sq 12 (.ext (.t 7) 0),
sq 13 (.ext (.t 7) 1),
sq 5 (.mv (.t 12)),
sq 6 (.mv (.t 13))])
 (.seq (.seq (.reg [sq 14 (.fieldA 1 (.t 2)),
sq 15 (.load none (.t 14)),
sq 16 (.bin .eql (.t 15) (kI 1))])
 (.cond (.t 16)
 (.seq (.sem (.reg [sq 17 (.mv (.t 6)),
sq 18 (.mv (.t 17)),
zg 19 18 true (.fieldA 2 (.t 2)),
zg 20 18 true (.load none (.t 19)),
zg 21 18 true (.mv (.t 5)),
zg 22 18 true (.call 124 [(.t 20),(.t 21)]),
sq 23 (.pick (.t 18) (.t 22) (kB false)),
sq 4 (.mv (.t 23))]))
 .ret)
 .skip))
 (.seq (.seq (.reg [sq 24 (.fieldA 1 (.t 2)),
sq 25 (.load none (.t 24)),
sq 26 (.bin .eql (.t 25) (kI 2))])
 (.cond (.t 26)
 (.seq (.sem (.reg [sq 27 (.mv (.t 6)),
sq 28 (.not (.t 27)),
sq 29 (.mv (.t 28)),
zg 30 29 false (.fieldA 2 (.t 2)),
zg 31 29 false (.load none (.t 30)),
zg 32 29 false (.mv (.t 5)),
zg 33 29 false (.call 124 [(.t 31),(.t 32)]),
zg 34 29 false (.not (.t 33)),
sq 35 (.pick (.t 29) (kB true) (.t 34)),
sq 4 (.mv (.t 35))]))
 .ret)
 .skip))
 (.seq (.sem (.reg [sq 36 (.fieldA 1 (.t 2)),
sq 37 (.load none (.t 36)),
sq 38 (.bin .eql (.t 37) (kI 3)),
sq 39 (.mv (.t 38)),
zg 40 39 true (.mv (.t 6)),
sq 41 (.pick (.t 39) (.t 40) (kB false)),
sq 42 (.mv (.t 41)),
zg 43 42 false (.fieldA 1 (.t 2)),
zg 44 42 false (.load none (.t 43)),
zg 45 42 false (.bin .eql (.t 44) (kI 4)),
zg 46 42 false (.mv (.t 45)),
zg 47 46 true (.mv (.t 6)),
zg 48 46 true (.not (.t 47)),
zg 49 42 false (.pick (.t 46) (.t 48) (kB false)),
sq 50 (.pick (.t 42) (kB true) (.t 49)),
sq 4 (.mv (.t 50))]))
 .ret)))))⟩
theorem a101_ok:afn Tryz.prog 101=some a101.er:=by kernel_rfl
theorem F101_ok{x0 x1 r}(h:F101 x0 x1=some r):CallD Tryz.prog 101 [.agg [dS x0.Key,dI x0.Op,dM (x0.Values.map eS)],.c (dM (x1.map eLabel))] [] (tupV [.c (dB r)]) []:=by
 refine callS a101_ok (by simp[a101]) ?_
 rw[F101]at h
 simp only[a101,VW.down,Nat.reduceEqDiff,reduceCtorEq,Nat.reduceAdd,Nat.reduceLeDiff,Nat.reduceLT,Nat.reduceBEq,Nat.reduceSub,EE.down]
 obtain⟨t1,ht1,h⟩:=bi h
 refine cN [] (F123_ok ht1) trivial (ww ?_)
 refine condSh h (fun c2 h=>?_) (fun c2 h=>?_)
 ·refine ww ?_
  obtain⟨o3,ho,h⟩:=bi h
  refine cutS (fun s=>s=⟨[(4,.one (.c (dB o3)))],[]⟩) ?_ ?_
  ·have h:=ho
   clear ho
   refine ww ?_
   refine guardSBh h (fun g4 h=>?_) (fun g4 h=>?_)
   ·refine ww ?_
    obtain⟨t5,ht5,h⟩:=bi h
    refine cN [] (F124_ok ht5) trivial (ww ?_)
    cases h
    exact eM [] rfl
   refine ww ?_
   cases h
   exact eM [] rfl
  rintro _ rfl
  clear ho
  refine ww ?_
  cases h
  exact eF []
 refine ww ?_
 refine condSh h (fun c6 h=>?_) (fun c6 h=>?_)
 ·refine ww ?_
  obtain⟨o7,ho,h⟩:=bi h
  refine cutS (fun s=>s=⟨[(4,.one (.c (dB o7)))],[]⟩) ?_ ?_
  ·have h:=ho
   clear ho
   refine ww ?_
   refine guardSBh h (fun g8 h=>?_) (fun g8 h=>?_)
   ·refine ww ?_
    cases h
    exact eM [] rfl
   refine ww ?_
   obtain⟨t9,ht9,h⟩:=bi h
   refine cN [] (F124_ok ht9) trivial (ww ?_)
   cases h
   exact eM [] rfl
  rintro _ rfl
  clear ho
  refine ww ?_
  cases h
  exact eF []
 refine ww ?_
 obtain⟨o10,ho,h⟩:=bi h
 refine cutS (fun s=>s=⟨[(4,.one (.c (dB o10)))],[]⟩) ?_ ?_
 ·have h:=ho
  clear ho
  refine ww ?_
  refine guardSh h (fun g11 h=>?_) (fun g11 h=>?_)
  ·refine ww ?_
   refine guardSBh h (fun g12 h=>?_) (fun g12 h=>?_)
   ·refine ww ?_
    cases h
    exact eM [] rfl
   refine ww ?_
   refine guardSh h (fun g13 h=>?_) (fun g13 h=>?_)
   ·refine ww ?_
    cases h
    exact eM [] rfl
   refine ww ?_
   cases h
   exact eM [] rfl
  refine ww ?_
  refine guardSh h (fun g14 h=>?_) (fun g14 h=>?_)
  ·refine ww ?_
   cases h
   exact eM [] rfl
  refine ww ?_
  cases h
  exact eM [] rfl
 rintro _ rfl
 clear ho
 refine ww ?_
 cases h
 exact eF []
end Go.Proofs.YtondgcmdhkhkkaaGreat
