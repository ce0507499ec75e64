/- Each Go function as a function over typed data, and its walk. -/
import Derived.Test.YtondgcmdhkhkkaaGreatAX
import Derived.Test.YtondgcmdhkhkkaaGreatAX2
import Derived.Test.YtondgcmdhkhkkaaGreatAX14
namespace Go.Proofs.YtondgcmdhkhkkaaGreat
open Go Go.Fw Go.Shelf
set_option maxRecDepth 100000
set_option maxHeartbeats 4000000
set_option linter.unusedSimpArgs false
set_option linter.unusedVariables false
def F53_l1:List Object→Nat→(List Object)→Option ((List Object))
 |[],o1_1,o1_0=>some o1_0
 |xo1::xs,o1_1,o1_0=>(F83 xo1).bind fun t3=>(apI o1_0 ([(⟨(⟨xo1.Meta.Kind,xo1.Meta.Namespace,xo1.Meta.Name,xo1.Meta.Uid,xo1.Meta.Version,xo1.Meta.Generation,xo1.Meta.Created,xo1.Meta.Deleting,xo1.Meta.DeleteAt,t3.1,t3.2.1,t3.2.2.1,t3.2.2.2.1⟩:Meta),(⟨t3.2.2.2.2.1,t3.2.2.2.2.2.1,t3.2.2.2.2.2.2.1,t3.2.2.2.2.2.2.2.1,t3.2.2.2.2.2.2.2.2.1⟩:TValue),(⟨t3.2.2.2.2.2.2.2.2.2.1,t3.2.2.2.2.2.2.2.2.2.2.1,t3.2.2.2.2.2.2.2.2.2.2.2.1,t3.2.2.2.2.2.2.2.2.2.2.2.2.1,t3.2.2.2.2.2.2.2.2.2.2.2.2.2⟩:TValue)⟩:Object)])).bind fun a4=>F53_l1 xs (o1_1+1) a4
def F53(x0:(List Object)):Option ((List Object)):=(((ck (0≤x0.length∧x0.length≤4294967290)).bind fun u5=>F53_l1 x0 0 ([])).bind fun o1=>some o1)
def a53:AFn:=⟨19,[(.tmp 2)],
 (.seq (.reg [sq 2 (.mv kN)])
 (.seq (.reg [sq 3 (.mv kN)])
 (.seq (.seq (.reg [sq 6 (.mv (.t 0)),
sq 7 (.len (.t 6)),
sq 8 (.mv (kI 0))])
 (.sem (.block 0 (.loop (.seq (.reg [sq 9 (.bin .lss (.t 8) (.t 7))])
 (.seq (.cond (.t 9)
 .skip
 (.exit 0))
 (.seq (.block 1 (.seq (.reg [sq 10 (.indexA 23 (.t 6) (.t 8)),
sq 11 (.load (some 23) (.t 10)),
sq 5 (.zbox [dS ⟨#[]⟩,dS ⟨#[]⟩,dS ⟨#[]⟩,dI 0,dI 0,dI 0,dI 0,dB false,dI 0,dN,dN,dN,dN,dI 0,dI 0,dS ⟨#[]⟩,dN,dN,dI 0,dI 0,dS ⟨#[]⟩,dN,dN]),
su (.store 23 (.t 5) (.t 11))])
 (.reg [sq 12 (.mv (.t 3)),
sq 13 (.load (some 23) (.t 5)),
sq 14 (.call 83 [(.t 13)]),
sq 15 (.bslice 23 [(.t 14)]),
sq 16 (.app 23 352 (.t 12) (.t 15)),
sq 3 (.mv (.t 16))])))
 (.reg [sq 17 (.bin .add (.t 8) (kI 1)),
sq 8 (.mv (.t 17))]))))))))
 (.seq (.reg [sq 18 (.mv (.t 3)),
sq 2 (.mv (.t 18))])
 .ret))))⟩
theorem a53_ok:afn Tryz.prog 53=some a53.er:=by kernel_rfl
theorem F53_ok{x0 r}(h:F53 x0=some r):CallD Tryz.prog 53 [.c (dM (x0.map eObject))] [] (tupV [.c (.own 0 0 0 (r.length) none)]) [some (.arr 0 23 (r.map eObject))]:=by
 refine callS a53_ok (by simp[a53]) ?_
 rw[F53]at h
 simp only[a53,VW.down,Nat.reduceEqDiff,reduceCtorEq,Nat.reduceAdd,Nat.reduceLeDiff,Nat.reduceLT,Nat.reduceBEq,Nat.reduceSub,EE.down]
 obtain⟨o1,ho,h⟩:=bi h
 refine cutS (fun s=>s=⟨[(3,.one (.c (.own 0 0 0 (o1.length) none)))],[some (.arr 0 23 (o1.map eObject))]⟩) ?_ ?_
 ·have h:=ho
  clear ho
  obtain⟨_,hk,h⟩:=bi h
  have hk:=ck_some hk
  refine ww ?_
  refine bL (fun j s=>∃(o1_1:Nat) (o1_0:List Object),(o1_1≤x0.length∧j=x0.length-o1_1)∧s=⟨[(3,.one (.c (.own 0 0 0 (o1_0.length) none))),(6,.one (.c (dM (x0.map eObject)))),(7,.one (.c (dI ((x0.length:Int))))),(8,.one (.c (dI ((o1_1:Int)))))],[some (.arr 0 23 (o1_0.map eObject))]⟩∧F53_l1 (x0.drop o1_1) o1_1 o1_0=some o1) (x0.length-0) [none] ⟨0,[],⟨hk.1,rfl⟩,rfl,h⟩ ?_
  rintro _ _ ⟨o1_1,o1_0,⟨hi,rfl⟩,rfl,h⟩
  refine ww ?_
  refine condS (fun c2=>?_) (fun c2=>?_)
  ·obtain⟨xo1,hxo1,hd⟩:=countY (show(o1_1:Int)<(x0.length:Int)from c2)
   rw[hd,F53_l1]at h
   refine ww ?_
   refine t_idxF (enc:=eObject) (xs:=x0) rfl rfl hxo1 rfl (ww ?_)
   obtain⟨t3,ht3,h⟩:=bi h
   refine cN [] (F83_ok ht3) trivial (ww ?_)
   refine t_bslice (enc:=eObject) (ys:=[(⟨(⟨xo1.Meta.Kind,xo1.Meta.Namespace,xo1.Meta.Name,xo1.Meta.Uid,xo1.Meta.Version,xo1.Meta.Generation,xo1.Meta.Created,xo1.Meta.Deleting,xo1.Meta.DeleteAt,t3.1,t3.2.1,t3.2.2.1,t3.2.2.2.1⟩:Meta),(⟨t3.2.2.2.2.1,t3.2.2.2.2.2.1,t3.2.2.2.2.2.2.1,t3.2.2.2.2.2.2.2.1,t3.2.2.2.2.2.2.2.2.1⟩:TValue),(⟨t3.2.2.2.2.2.2.2.2.2.1,t3.2.2.2.2.2.2.2.2.2.2.1,t3.2.2.2.2.2.2.2.2.2.2.2.1,t3.2.2.2.2.2.2.2.2.2.2.2.2.1,t3.2.2.2.2.2.2.2.2.2.2.2.2.2⟩:TValue)⟩:Object)]) rfl rfl (by simp[A1.cells]) (by first|rfl|(simp only[List.drop_zero,take_mapL];rfl)|(simp only[lit,List.map_cons,List.map_nil,List.drop_zero,take_mapL,EE.down];done)|(simp only[lit,List.map_cons,List.map_nil,List.drop_zero,take_mapL,EE.down];rfl)) (ww ?_)
   obtain⟨a4,ha4,h⟩:=bi h
   refine t_app (enc:=eObject) (xs:=o1_0) rfl rfl (by first|rfl|simp only[List.length_set]|exact(clrL_len (slI_len (by assumption))).symm) rfl (rows_full (enc:=eObject) (by first|rfl|simp only[List.length_set]|exact(clrL_len (slI_len (by assumption))).symm) rfl) ha4 (ww ?_)
   rw[wrapN (by omega)]
   exact eL' (x0.length-(o1_1+1)) [some 0] ⟨o1_1+1,a4,⟨by omega,rfl⟩,rfl,h⟩ (by omega)
  rw[countN (show¬((o1_1:Int)<(x0.length:Int))from c2),F53_l1]at h
  refine ww ?_
  cases h
  exact eM [some 0] rfl
 rintro _ rfl
 clear ho
 refine ww ?_
 cases h
 exact eF [some 0]
def F60_l4:List Change→Nat→(List Change)→Option ((List Change))
 |[],o4_1,o4_0=>some o4_0
 |xo4::xs,o4_1,o4_0=>(rdI o4_0 ((o4_1:Int))).bind fun y6=>(F83 y6.Object).bind fun t7=>(rdI o4_0 ((o4_1:Int))).bind fun y8=>F60_l4 xs (o4_1+1) ((o4_0.set ((o4_1:Int)).toNat ((⟨y8.Rev,y8.Kind,(⟨(⟨y6.Object.Meta.Kind,y6.Object.Meta.Namespace,y6.Object.Meta.Name,y6.Object.Meta.Uid,y6.Object.Meta.Version,y6.Object.Meta.Generation,y6.Object.Meta.Created,y6.Object.Meta.Deleting,y6.Object.Meta.DeleteAt,t7.1,t7.2.1,t7.2.2.1,t7.2.2.2.1⟩:Meta),(⟨t7.2.2.2.2.1,t7.2.2.2.2.2.1,t7.2.2.2.2.2.2.1,t7.2.2.2.2.2.2.2.1,t7.2.2.2.2.2.2.2.2.1⟩:TValue),(⟨t7.2.2.2.2.2.2.2.2.2.1,t7.2.2.2.2.2.2.2.2.2.2.1,t7.2.2.2.2.2.2.2.2.2.2.2.1,t7.2.2.2.2.2.2.2.2.2.2.2.2.1,t7.2.2.2.2.2.2.2.2.2.2.2.2.2⟩:TValue)⟩:Object)⟩:Change))))
def F60(x0:TStore):Option ((List Object)×(List Object)×(List Change)):=(F53 x0.Base).bind fun t1=>(F53 x0.Objects).bind fun t2=>(cloneI x0.History).bind fun t3=>(((ck (0≤t3.length∧t3.length≤4294967290)).bind fun u9=>F60_l4 t3 0 t3).bind fun o4=>some ((t1,t2,o4)))
def a60:AFn:=⟨36,[(.cell 2 (some 6))],
 (.seq (.reg [sq 1 (.box (.t 0)),
sq 2 (.zbox [dI 0,dI 0,dI 0,dN,dN,dN])])
 (.seq (.regd [sq 4 (.fieldA 3 (.t 1)),
sd 5 (.load none (.t 4)) [0],
zn 6 (.call 53 [(.t 5)]) [0,1] [0,1],
sq 7 (.fieldA 4 (.t 1)),
sd 8 (.load none (.t 7)) [3],
sd 9 (.call 53 [(.t 8)]) [0,1,2,3,4],
sd 10 (.fieldA 3 (.t 1)) [0,1,2,3,4],
⟨none,none,.store 1 (.t 10) (.t 6),[0,1,2,3,4,5,6],(.lone [])⟩,
sd 11 (.fieldA 4 (.t 1)) [0,1,2,3,4,5,6,7],
⟨none,none,.store 1 (.t 11) (.t 9),[0,1,2,3,4,5,6,7,8],(.lone [])⟩])
 (.seq (.reg [sq 12 (.fieldA 5 (.t 1)),
sq 13 (.load none (.t 12)),
sq 14 (.call 90 [(.t 13)]),
sq 15 (.fieldA 5 (.t 1)),
su (.store 1 (.t 15) (.t 14))])
 (.seq (.seq (.reg [sq 16 (.fieldA 5 (.t 1)),
sq 17 (.load none (.t 16)),
sq 18 (.len (.t 17)),
sq 19 (.mv (kI 0))])
 (.sem (.block 0 (.loop (.seq (.reg [sq 20 (.bin .lss (.t 19) (.t 18))])
 (.seq (.cond (.t 20)
 .skip
 (.exit 0))
 (.seq (.block 1 (.seq (.reg [sq 21 (.mv (.t 19)),
sq 3 (.mv (.t 21))])
 (.regd [sq 22 (.fieldA 5 (.t 1)),
sd 23 (.load none (.t 22)) [0],
sq 24 (.mv (.t 3)),
sq 25 (.fieldA 5 (.t 1)),
sd 26 (.load none (.t 25)) [3],
sq 27 (.mv (.t 3)),
sd 28 (.indexA 25 (.t 26) (.t 27)) [3,4,5],
sd 29 (.fieldA 2 (.t 28)) [3,4,5,6],
sd 30 (.load (some 23) (.t 29)) [3,4,5,6,7],
zl 31 (.call 83 [(.t 30)]) [3,4,5,6,7,8] [1,22],
sd 32 (.indexA 25 (.t 23) (.t 24)) [0,1,2,3,4,5,6,7,8,9],
sd 33 (.fieldA 2 (.t 32)) [0,1,2,3,4,5,6,7,8,9,10],
⟨none,none,.store 23 (.t 33) (.t 31),[0,1,2,3,4,5,6,7,8,9,10,11],(.lone [])⟩])))
 (.reg [sq 34 (.bin .add (.t 19) (kI 1)),
sq 19 (.mv (.t 34))]))))))))
 (.seq (.reg [sq 35 (.load (some 6) (.t 1)),
⟨none,none,.store 6 (.t 2) (.t 35),[],(.lone [1])⟩])
 .ret)))))⟩
theorem a60_ok:afn Tryz.prog 60=some a60.er:=by kernel_rfl
theorem F60_ok{x0 r}(h:F60 x0=some r):CallD Tryz.prog 60 [.agg [dI x0.Rev,dI x0.Floor,dI x0.NextUid,dM (x0.Base.map eObject),dM (x0.Objects.map eObject),dM (x0.History.map eChange)]] [] (tupV [.agg [dI x0.Rev,dI x0.Floor,dI x0.NextUid,.own 0 0 0 (r.1.length) none,.own 1 0 0 (r.2.1.length) none,.own 2 0 0 (r.2.2.length) none]]) [some (.arr 0 23 (r.1.map eObject)),some (.arr 0 23 (r.2.1.map eObject)),some (.arr 0 25 (r.2.2.map eChange))]:=by
 refine callS a60_ok (by simp[a60]) ?_
 rw[F60]at h
 simp only[a60,VW.down,Nat.reduceEqDiff,reduceCtorEq,Nat.reduceAdd,Nat.reduceLeDiff,Nat.reduceLT,Nat.reduceBEq,Nat.reduceSub,EE.down]
 obtain⟨t1,ht1,h⟩:=bi h
 refine cN [] (F53_ok ht1) trivial (ww ?_)
 refine kD_new (by simp[wrs,allW,hset]) (ww ?_)
 obtain⟨t2,ht2,h⟩:=bi h
 refine cN [] (F53_ok ht2) trivial (ww ?_)
 refine kD_new (by simp[wrs,allW,hset]) (ww ?_)
 obtain⟨t3,ht3,h⟩:=bi h
 refine cN [] (F90_ok ht3) trivial (ww ?_)
 obtain⟨o4,ho,h⟩:=bi h
 refine cutS (fun s=>s=⟨[(1,.one (.c (.pt 0 0))),(2,.one (.c (.pt 4 0)))],[some (.box [dI x0.Rev,dI x0.Floor,dI x0.NextUid,.own 1 0 0 (t1.length) none,.own 2 0 0 (t2.length) none,.own 3 0 0 (o4.length) none]),some (.arr 0 23 (t1.map eObject)),some (.arr 0 23 (t2.map eObject)),some (.arr 0 25 (o4.map eChange)),some (.box [dI 0,dI 0,dI 0,dN,dN,dN])]⟩) ?_ ?_
 ·have h:=ho
  clear ho
  obtain⟨_,hk,h⟩:=bi h
  have hk:=ck_some hk
  refine ww ?_
  refine bL (fun j s=>∃(o4_1:Nat) (o4_0:List Change),(o4_1≤t3.length∧j=t3.length-o4_1)∧s=⟨[(1,.one (.c (.pt 0 0))),(2,.one (.c (.pt 4 0))),(18,.one (.c (dI ((t3.length:Int))))),(19,.one (.c (dI ((o4_1:Int)))))],[some (.box [dI x0.Rev,dI x0.Floor,dI x0.NextUid,.own 1 0 0 (t1.length) none,.own 2 0 0 (t2.length) none,.own 3 0 0 (o4_0.length) none]),some (.arr 0 23 (t1.map eObject)),some (.arr 0 23 (t2.map eObject)),some (.arr 0 25 (o4_0.map eChange)),some (.box [dI 0,dI 0,dI 0,dN,dN,dN])]⟩∧F60_l4 (t3.drop o4_1) o4_1 o4_0=some o4) (t3.length-0) [some 0,some 2,some 3,some 4,some 1] ⟨0,t3,⟨hk.1,rfl⟩,rfl,h⟩ ?_
  rintro _ _ ⟨o4_1,o4_0,⟨hi,rfl⟩,rfl,h⟩
  refine ww ?_
  refine condS (fun c5=>?_) (fun c5=>?_)
  ·obtain⟨xo4,hxo4,hd⟩:=countY (show(o4_1:Int)<(t3.length:Int)from c5)
   rw[hd,F60_l4]at h
   refine ww ?_
   obtain⟨y6,hy6,h⟩:=bi h
   refine t_idxO (enc:=eChange) (xs:=o4_0) rfl rfl rfl (by first|rfl|simp only[List.length_set]|exact(clrL_len (slI_len (by assumption))).symm) hy6 (ww ?_)
   refine LdRow.rd (rdI_some hy6).2.1 (ww ?_)
   obtain⟨t7,ht7,h⟩:=bi h
   refine cN [] (F83_ok ht7) trivial (ww ?_)
   obtain⟨y8,hy8,h⟩:=bi h
   refine t_idxO (enc:=eChange) (xs:=o4_0) rfl rfl rfl (by first|rfl|simp only[List.length_set]|exact(clrL_len (slI_len (by assumption))).symm) hy8 (ww ?_)
   refine StRow.rd (y':=(⟨y8.Rev,y8.Kind,(⟨(⟨y6.Object.Meta.Kind,y6.Object.Meta.Namespace,y6.Object.Meta.Name,y6.Object.Meta.Uid,y6.Object.Meta.Version,y6.Object.Meta.Generation,y6.Object.Meta.Created,y6.Object.Meta.Deleting,y6.Object.Meta.DeleteAt,t7.1,t7.2.1,t7.2.2.1,t7.2.2.2.1⟩:Meta),(⟨t7.2.2.2.2.1,t7.2.2.2.2.2.1,t7.2.2.2.2.2.2.1,t7.2.2.2.2.2.2.2.1,t7.2.2.2.2.2.2.2.2.1⟩:TValue),(⟨t7.2.2.2.2.2.2.2.2.2.1,t7.2.2.2.2.2.2.2.2.2.2.1,t7.2.2.2.2.2.2.2.2.2.2.2.1,t7.2.2.2.2.2.2.2.2.2.2.2.2.1,t7.2.2.2.2.2.2.2.2.2.2.2.2.2⟩:TValue)⟩:Object)⟩:Change)) (rdI_some hy8).2.1 (by simp[EE.down]) (by first|rfl|(simp only[bor_full'];rfl)) (ww ?_)
   rw[wrapN (by omega)]
   exact eL' (t3.length-(o4_1+1)) [some 0,some 1,some 2,some 3,some 4] ⟨o4_1+1,(o4_0.set ((o4_1:Int)).toNat ((⟨y8.Rev,y8.Kind,(⟨(⟨y6.Object.Meta.Kind,y6.Object.Meta.Namespace,y6.Object.Meta.Name,y6.Object.Meta.Uid,y6.Object.Meta.Version,y6.Object.Meta.Generation,y6.Object.Meta.Created,y6.Object.Meta.Deleting,y6.Object.Meta.DeleteAt,t7.1,t7.2.1,t7.2.2.1,t7.2.2.2.1⟩:Meta),(⟨t7.2.2.2.2.1,t7.2.2.2.2.2.1,t7.2.2.2.2.2.2.1,t7.2.2.2.2.2.2.2.1,t7.2.2.2.2.2.2.2.2.1⟩:TValue),(⟨t7.2.2.2.2.2.2.2.2.2.1,t7.2.2.2.2.2.2.2.2.2.2.1,t7.2.2.2.2.2.2.2.2.2.2.2.1,t7.2.2.2.2.2.2.2.2.2.2.2.2.1,t7.2.2.2.2.2.2.2.2.2.2.2.2.2⟩:TValue)⟩:Object)⟩:Change))),⟨by omega,rfl⟩,rfl,h⟩ (by omega)
  rw[countN (show¬((o4_1:Int)<(t3.length:Int))from c5),F60_l4]at h
  refine ww ?_
  cases h
  exact eM [some 0,some 1,some 2,some 3,some 4] rfl
 rintro _ rfl
 clear ho
 refine ww ?_
 cases h
 exact eF [some 1,some 2,some 3]
def F57(x0:(List Requirement)):Option (Bool):=(F86 x0).bind fun t1=>some (decide (0≤t1))
def a57:AFn:=⟨9,[(.tmp 4)],
 (.seq (.reg [sq 4 (.mv (kB false))])
 (.seq (.reg [sq 5 (.mv (.t 0)),
sq 6 (.mv (.t 1)),
sq 7 (.call 86 [(.t 5),(.t 6)]),
sq 8 (.bin .geq (.t 7) (kI 0)),
sq 4 (.mv (.t 8))])
 .ret))⟩
theorem a57_ok:afn Tryz.prog 57=some a57.er:=by kernel_rfl
theorem F57_ok{x0 r}(h:F57 x0=some r):CallD Tryz.prog 57 [.c (dM (x0.map eRequirement)),.c (.fn 58 [])] [] (tupV [.c (dB r)]) []:=by
 refine callS a57_ok (by simp[a57]) ?_
 rw[F57]at h
 simp only[a57,VW.down,Nat.reduceEqDiff,reduceCtorEq,Nat.reduceAdd,Nat.reduceLeDiff,Nat.reduceLT,Nat.reduceBEq,Nat.reduceSub,EE.down]
 obtain⟨t1,ht1,h⟩:=bi h
 refine cN [] (F86_ok ht1) trivial (ww ?_)
 cases h
 exact eF []
def F27(x0:(List Requirement)):Option (Bool):=(((if(x0.length:Int)≤16 then(F57 x0).bind fun t3=>some (nb t3)else some false)).bind fun o1=>some o1)
def a27:AFn:=⟨11,[(.tmp 2)],
 (.seq (.reg [sq 2 (.mv (kB false))])
 (.seq (.sem (.reg [sq 3 (.mv (.t 0)),
sq 4 (.len (.t 3)),
sq 5 (.bin .leq (.t 4) (kI 16)),
sq 6 (.mv (.t 5)),
zg 7 6 true (.mv (.t 0)),
zg 8 6 true (.call 57 [(.t 7),(.f 58)]),
zg 9 6 true (.not (.t 8)),
sq 10 (.pick (.t 6) (.t 9) (kB false)),
sq 2 (.mv (.t 10))]))
 .ret))⟩
theorem a27_ok:afn Tryz.prog 27=some a27.er:=by kernel_rfl
theorem F27_ok{x0 r}(h:F27 x0=some r):CallD Tryz.prog 27 [.c (dM (x0.map eRequirement))] [] (tupV [.c (dB r)]) []:=by
 refine callS a27_ok (by simp[a27]) ?_
 rw[F27]at h
 simp only[a27,VW.down,Nat.reduceEqDiff,reduceCtorEq,Nat.reduceAdd,Nat.reduceLeDiff,Nat.reduceLT,Nat.reduceBEq,Nat.reduceSub,EE.down]
 obtain⟨o1,ho,h⟩:=bi h
 refine cutS (fun s=>s=⟨[(2,.one (.c (dB o1)))],[]⟩) ?_ ?_
 ·have h:=ho
  clear ho
  refine ww ?_
  refine guardSh h (fun g2 h=>?_) (fun g2 h=>?_)
  ·refine ww ?_
   obtain⟨t3,ht3,h⟩:=bi h
   refine cN [] (F57_ok ht3) trivial (ww ?_)
   cases h
   exact eM [] rfl
  refine ww ?_
  cases h
  exact eM [] rfl
 rintro _ rfl
 clear ho
 refine ww ?_
 cases h
 exact eF []
def F34(x0:TStore)(x1:Filter)(x2:Int):Option (Int):=(F27 x1.Selector).bind fun t1=>(if(nb t1)=true then some 1 else(((if x2<0 then some true else some (decide (x0.Rev<x2)))).bind fun o3=>(if o3=true then some 5 else(if x2<x0.Floor then some 10 else some 0))))
def a34:AFn:=⟨26,[(.tmp 6)],
 (.seq (.reg [sq 3 (.box (.t 0)),
sq 4 (.box (.t 1)),
sq 6 (.mv (kI 0))])
 (.seq (.block 0 (.seq (.reg [sq 8 (.fieldA 2 (.t 4)),
sq 9 (.load none (.t 8)),
sq 10 (.call 27 [(.t 9)]),
sq 11 (.not (.t 10)),
sq 7 (.mv (.t 11))])
 (.cond (.t 7)
 (.seq (.reg [sq 6 (.mv (kI 1))])
 .ret)
 (.seq (.sem (.reg [sq 13 (.mv (.t 2)),
sq 14 (.bin .lss (.t 13) (kI 0)),
sq 15 (.mv (.t 14)),
zg 16 15 false (.mv (.t 2)),
zg 17 15 false (.fieldA 0 (.t 3)),
zg 18 15 false (.load none (.t 17)),
zg 19 15 false (.bin .gtr (.t 16) (.t 18)),
sq 20 (.pick (.t 15) (kB true) (.t 19)),
sq 12 (.mv (.t 20))]))
 (.cond (.t 12)
 (.seq (.reg [sq 6 (.mv (kI 5))])
 .ret)
 (.seq (.reg [sq 22 (.mv (.t 2)),
sq 23 (.fieldA 1 (.t 3)),
sq 24 (.load none (.t 23)),
sq 25 (.bin .lss (.t 22) (.t 24)),
sq 21 (.mv (.t 25))])
 (.cond (.t 21)
 (.seq (.reg [sq 6 (.mv (kI 10))])
 .ret)
 .skip)))))))
 (.seq (.reg [sq 6 (.mv (kI 0))])
 .ret)))⟩
theorem a34_ok:afn Tryz.prog 34=some a34.er:=by kernel_rfl
theorem F34_ok{x0 x1 x2 r}(h:F34 x0 x1 x2=some r):CallD Tryz.prog 34 [.agg [dI x0.Rev,dI x0.Floor,dI x0.NextUid,dM (x0.Base.map eObject),dM (x0.Objects.map eObject),dM (x0.History.map eChange)],.agg [dS x1.Kind,dS x1.Namespace,dM (x1.Selector.map eRequirement)],.c (dI x2)] [] (tupV [.c (dI r)]) []:=by
 refine callS a34_ok (by simp[a34]) ?_
 rw[F34]at h
 simp only[a34,VW.down,Nat.reduceEqDiff,reduceCtorEq,Nat.reduceAdd,Nat.reduceLeDiff,Nat.reduceLT,Nat.reduceBEq,Nat.reduceSub,EE.down]
 obtain⟨t1,ht1,h⟩:=bi h
 refine cN [] (F27_ok ht1) trivial (ww ?_)
 refine condBh h (fun c2 h=>?_) (fun c2 h=>?_)
 ·refine ww ?_
  cases h
  exact eF []
 refine ww ?_
 obtain⟨o3,ho,h⟩:=bi h
 refine cutS (fun s=>s=⟨[(2,.one (.c (dI x2))),(3,.one (.c (.pt 0 0))),(12,.one (.c (dB o3)))],[some (.box [dI x0.Rev,dI x0.Floor,dI x0.NextUid,dM (x0.Base.map eObject),dM (x0.Objects.map eObject),dM (x0.History.map eChange)])]⟩) ?_ ?_
 ·have h:=ho
  clear ho
  refine ww ?_
  refine guardSh h (fun g4 h=>?_) (fun g4 h=>?_)
  ·refine ww ?_
   cases h
   exact eM [some 0] rfl
  refine ww ?_
  cases h
  exact eM [some 0] rfl
 rintro _ rfl
 clear ho
 refine ww ?_
 refine condBh h (fun c5 h=>?_) (fun c5 h=>?_)
 ·refine ww ?_
  cases h
  exact eF []
 refine ww ?_
 refine condSh h (fun c6 h=>?_) (fun c6 h=>?_)
 ·refine ww ?_
  cases h
  exact eF []
 refine ww ?_
 cases h
 exact eF []
end Go.Proofs.YtondgcmdhkhkkaaGreat
