/- Each Go function as a function over typed data, and its walk. -/
import Derived.Test.YtbopaemngpbdgaaGreatW0
import Derived.Test.YtbopaemngpbdgaaGreatW1
import Derived.Test.YtbopaemngpbdgaaGreatW2
import Derived.Test.YtbopaemngpbdgaaGreatW3
import Derived.Test.YtbopaemngpbdgaaGreatW4
import Derived.Test.YtbopaemngpbdgaaGreatW5
import Derived.Test.YtbopaemngpbdgaaGreatW6
import Derived.Test.YtbopaemngpbdgaaGreatW8
namespace Go.Proofs.YtbopaemngpbdgaaGreat
open Go Go.Fw Go.Shelf
set_option maxRecDepth 100000
set_option maxHeartbeats 4000000
set_option linter.unusedSimpArgs false
set_option linter.unusedVariables false
def F35(x0:(List Object))(x1:ByteArray):Option (Int×Bool):=(F70 x0 x1).bind fun t1=>some ((t1.1,t1.2))
def a35:AFn:=⟨11,[(.tmp 4),(.tmp 5)],
 (.seq (.reg [sq 4 (.mv (kI 0)),
sq 5 (.mv (kB false))])
 (.seq (.reg [sq 6 (.mv (.t 0)),
sq 7 (.mv (.t 1)),
sq 8 (.call 70 [(.t 6),(.t 7),(.f 71)]),
sq 9 (.ext (.t 8) 0),
sq 10 (.ext (.t 8) 1),
sq 4 (.mv (.t 9)),
sq 5 (.mv (.t 10))])
 .ret))⟩
theorem F35_ok{x0 x1 r}(h:F35 x0 x1=some r):CallD Tryz.prog 35 [.c (dM (x0.map eObject)),.c (dS x1)] [] (tupV [.c (dI r.1),.c (dB r.2)]) []:=by
 rw[F35]at h
 refine zc a35 (by kernel_rfl) rfl (ww ?_)
 obtain⟨t1,ht1,h⟩:=bi h
 refine cN [] (F70_ok ht1) trivial (ww ?_)
 cases h
 exact eF []
def F65_l1:List Object→Nat→(List Object)→Option ((List Object))
 |[],o1_1,o1_0=>some o1_0
 |xo1::xs,o1_1,o1_0=>(F36 xo1).bind fun t3=>(apI o1_0 ([(⟨(⟨xo1.Meta.Kind,xo1.Meta.Namespace,xo1.Meta.Name,xo1.Meta.Uid,xo1.Meta.Version,xo1.Meta.Generation,xo1.Meta.Created,xo1.Meta.Deleting,xo1.Meta.DeleteAt,t3.1,t3.2.1,t3.2.2.1,t3.2.2.2.1⟩:Meta),(⟨t3.2.2.2.2.1,t3.2.2.2.2.2.1,t3.2.2.2.2.2.2.1,t3.2.2.2.2.2.2.2.1,t3.2.2.2.2.2.2.2.2.1⟩:TValue),(⟨t3.2.2.2.2.2.2.2.2.2.1,t3.2.2.2.2.2.2.2.2.2.2.1,t3.2.2.2.2.2.2.2.2.2.2.2.1,t3.2.2.2.2.2.2.2.2.2.2.2.2.1,t3.2.2.2.2.2.2.2.2.2.2.2.2.2⟩:TValue)⟩:Object)])).bind fun a4=>F65_l1 xs (o1_1+1) a4
def F65(x0:(List Object)):Option ((List Object)):=(((ck (0≤x0.length∧x0.length≤4294967290)).bind fun u5=>F65_l1 x0 0 ([])).bind fun o1=>some o1)
def a65:AFn:=⟨19,[(.tmp 2)],
 (.seq (.reg [sq 2 (.mv kN)])
 (.seq (.reg [sq 3 (.mv kN)])
 (.seq (.seq (.reg [sq 6 (.mv (.t 0)),
sq 7 (.len (.t 6)),
sq 8 (.mv (kI 0))])
 (.sem (.block 0 (.loop (.seq (.reg [sq 9 (.bin .lss (.t 8) (.t 7))])
 (.seq (.cond (.t 9)
 .skip
 (.exit 0))
 (.seq (.block 1 (.seq (.reg [sq 10 (.indexA 23 (.t 6) (.t 8)),
sq 11 (.load (some 23) (.t 10)),
sq 5 (.zbox [dS ⟨#[]⟩,dS ⟨#[]⟩,dS ⟨#[]⟩,dI 0,dI 0,dI 0,dI 0,dB false,dI 0,dN,dN,dN,dN,dI 0,dI 0,dS ⟨#[]⟩,dN,dN,dI 0,dI 0,dS ⟨#[]⟩,dN,dN]),
su (.store 23 (.t 5) (.t 11))])
 (.reg [sq 12 (.mv (.t 3)),
sq 13 (.load (some 23) (.t 5)),
sq 14 (.call 36 [(.t 13)]),
sq 15 (.bslice 23 [(.t 14)]),
sq 16 (.app 23 352 (.t 12) (.t 15)),
sq 3 (.mv (.t 16))])))
 (.reg [sq 17 (.bin .add (.t 8) (kI 1)),
sq 8 (.mv (.t 17))]))))))))
 (.seq (.reg [sq 18 (.mv (.t 3)),
sq 2 (.mv (.t 18))])
 .ret))))⟩
theorem F65_ok{x0 r}(h:F65 x0=some r):CallD Tryz.prog 65 [.c (dM (x0.map eObject))] [] (tupV [.c (.own 0 0 0 (r.length) none)]) [some (.arr 0 23 (r.map eObject))]:=by
 rw[F65]at h
 refine zc a65 (by kernel_rfl) rfl (ww ?_)
 obtain⟨o1,ho,h⟩:=bi h
 refine cutS (fun s=>s=⟨[(3,.one (.c (.own 0 0 0 (o1.length) none)))],[some (.arr 0 23 (o1.map eObject))]⟩) ?_ ?_
 ·have h:=ho
  clear ho
  obtain⟨_,hk,h⟩:=bi h
  have hk:=ck_some hk
  refine ww ?_
  refine bL (fun j s=>∃(o1_1:Nat) (o1_0:List Object),(o1_1≤x0.length∧j=x0.length-o1_1)∧s=⟨[(3,.one (.c (.own 0 0 0 (o1_0.length) none))),(6,.one (.c (dM (x0.map eObject)))),(7,.one (.c (dI ((x0.length:Int))))),(8,.one (.c (dI ((o1_1:Int)))))],[some (.arr 0 23 (o1_0.map eObject))]⟩∧F65_l1 (x0.drop o1_1) o1_1 o1_0=some o1) (x0.length-0) [none] ⟨0,[],⟨hk.1,rfl⟩,rfl,h⟩ ?_
  rintro _ _ ⟨o1_1,o1_0,⟨hi,rfl⟩,rfl,h⟩
  refine ww ?_
  refine condS (fun c2=>?_) (fun c2=>?_)
  ·obtain⟨xo1,hxo1,hd⟩:=countY (show(o1_1:Int)<(x0.length:Int)from c2)
   rw[hd,F65_l1]at h
   refine ww ?_
   refine t_idxF (enc:=eObject) (xs:=x0) rfl rfl hxo1 rfl (ww ?_)
   obtain⟨t3,ht3,h⟩:=bi h
   refine cN [] (F36_ok ht3) trivial (ww ?_)
   refine t_bslice (enc:=eObject) (ys:=[(⟨(⟨xo1.Meta.Kind,xo1.Meta.Namespace,xo1.Meta.Name,xo1.Meta.Uid,xo1.Meta.Version,xo1.Meta.Generation,xo1.Meta.Created,xo1.Meta.Deleting,xo1.Meta.DeleteAt,t3.1,t3.2.1,t3.2.2.1,t3.2.2.2.1⟩:Meta),(⟨t3.2.2.2.2.1,t3.2.2.2.2.2.1,t3.2.2.2.2.2.2.1,t3.2.2.2.2.2.2.2.1,t3.2.2.2.2.2.2.2.2.1⟩:TValue),(⟨t3.2.2.2.2.2.2.2.2.2.1,t3.2.2.2.2.2.2.2.2.2.2.1,t3.2.2.2.2.2.2.2.2.2.2.2.1,t3.2.2.2.2.2.2.2.2.2.2.2.2.1,t3.2.2.2.2.2.2.2.2.2.2.2.2.2⟩:TValue)⟩:Object)]) rfl rfl (by simp[A1.cells]) (by first|rfl|(simp only[List.drop_zero,take_mapL];rfl)|(simp only[lit,List.map_cons,List.map_nil,List.drop_zero,take_mapL,EE.down];done)|(simp only[lit,List.map_cons,List.map_nil,List.drop_zero,take_mapL,EE.down];rfl)) (ww ?_)
   obtain⟨a4,ha4,h⟩:=bi h
   refine t_app (enc:=eObject) (xs:=o1_0) rfl rfl (by first|rfl|simp only[List.length_set]|exact(clrL_len (slI_len (by assumption))).symm) rfl (rows_full (enc:=eObject) (by first|rfl|simp only[List.length_set]|exact(clrL_len (slI_len (by assumption))).symm) rfl) ha4 (ww ?_)
   rw[wrapN (by omega)]
   exact eL' (x0.length-(o1_1+1)) [some 0] ⟨o1_1+1,a4,⟨by omega,rfl⟩,rfl,h⟩ (by omega)
  rw[countN (show¬((o1_1:Int)<(x0.length:Int))from c2),F65_l1]at h
  refine ww ?_
  cases h
  exact eM [some 0] rfl
 rintro _ rfl
 clear ho
 refine ww ?_
 cases h
 exact eF [some 0]
def F39_l4:List Change→Nat→(List Change)→Option ((List Change))
 |[],o4_1,o4_0=>some o4_0
 |xo4::xs,o4_1,o4_0=>(rdI o4_0 ((o4_1:Int))).bind fun y6=>(F36 y6.Object).bind fun t7=>(rdI o4_0 ((o4_1:Int))).bind fun y8=>F39_l4 xs (o4_1+1) ((o4_0.set ((o4_1:Int)).toNat ((⟨y8.Rev,y8.Kind,(⟨(⟨y6.Object.Meta.Kind,y6.Object.Meta.Namespace,y6.Object.Meta.Name,y6.Object.Meta.Uid,y6.Object.Meta.Version,y6.Object.Meta.Generation,y6.Object.Meta.Created,y6.Object.Meta.Deleting,y6.Object.Meta.DeleteAt,t7.1,t7.2.1,t7.2.2.1,t7.2.2.2.1⟩:Meta),(⟨t7.2.2.2.2.1,t7.2.2.2.2.2.1,t7.2.2.2.2.2.2.1,t7.2.2.2.2.2.2.2.1,t7.2.2.2.2.2.2.2.2.1⟩:TValue),(⟨t7.2.2.2.2.2.2.2.2.2.1,t7.2.2.2.2.2.2.2.2.2.2.1,t7.2.2.2.2.2.2.2.2.2.2.2.1,t7.2.2.2.2.2.2.2.2.2.2.2.2.1,t7.2.2.2.2.2.2.2.2.2.2.2.2.2⟩:TValue)⟩:Object)⟩:Change))))
def F39(x0:TStore):Option ((List Object)×(List Object)×(List Change)):=(F65 x0.Base).bind fun t1=>(F65 x0.Objects).bind fun t2=>(cloneI x0.History).bind fun t3=>(((ck (0≤t3.length∧t3.length≤4294967290)).bind fun u9=>F39_l4 t3 0 t3).bind fun o4=>some ((t1,t2,o4)))
def a39:AFn:=⟨36,[(.cell 2 (some 6))],
 (.seq (.reg [sq 1 (.box (.t 0)),
sq 2 (.zbox [dI 0,dI 0,dI 0,dN,dN,dN])])
 (.seq (.regd [sq 4 (.fieldA 3 (.t 1)),
sd 5 (.load none (.t 4)) [0],
zn 6 (.call 65 [(.t 5)]) [0,1] [0,1],
sq 7 (.fieldA 4 (.t 1)),
sd 8 (.load none (.t 7)) [3],
sd 9 (.call 65 [(.t 8)]) [0,1,2,3,4],
sd 10 (.fieldA 3 (.t 1)) [0,1,2,3,4],
⟨none,none,.store 1 (.t 10) (.t 6),[0,1,2,3,4,5,6],(.lone [])⟩,
sd 11 (.fieldA 4 (.t 1)) [0,1,2,3,4,5,6,7],
⟨none,none,.store 1 (.t 11) (.t 9),[0,1,2,3,4,5,6,7,8],(.lone [])⟩])
 (.seq (.reg [sq 12 (.fieldA 5 (.t 1)),
sq 13 (.load none (.t 12)),
sq 14 (.call 81 [(.t 13)]),
sq 15 (.fieldA 5 (.t 1)),
su (.store 1 (.t 15) (.t 14))])
 (.seq (.seq (.reg [sq 16 (.fieldA 5 (.t 1)),
sq 17 (.load none (.t 16)),
sq 18 (.len (.t 17)),
sq 19 (.mv (kI 0))])
 (.sem (.block 0 (.loop (.seq (.reg [sq 20 (.bin .lss (.t 19) (.t 18))])
 (.seq (.cond (.t 20)
 .skip
 (.exit 0))
 (.seq (.block 1 (.seq (.reg [sq 21 (.mv (.t 19)),
sq 3 (.mv (.t 21))])
 (.regd [sq 22 (.fieldA 5 (.t 1)),
sd 23 (.load none (.t 22)) [0],
sq 24 (.mv (.t 3)),
sq 25 (.fieldA 5 (.t 1)),
sd 26 (.load none (.t 25)) [3],
sq 27 (.mv (.t 3)),
sd 28 (.indexA 25 (.t 26) (.t 27)) [3,4,5],
sd 29 (.fieldA 2 (.t 28)) [3,4,5,6],
sd 30 (.load (some 23) (.t 29)) [3,4,5,6,7],
zl 31 (.call 36 [(.t 30)]) [3,4,5,6,7,8] [1,22],
sd 32 (.indexA 25 (.t 23) (.t 24)) [0,1,2,3,4,5,6,7,8,9],
sd 33 (.fieldA 2 (.t 32)) [0,1,2,3,4,5,6,7,8,9,10],
⟨none,none,.store 23 (.t 33) (.t 31),[0,1,2,3,4,5,6,7,8,9,10,11],(.lone [])⟩])))
 (.reg [sq 34 (.bin .add (.t 19) (kI 1)),
sq 19 (.mv (.t 34))]))))))))
 (.seq (.reg [sq 35 (.load (some 6) (.t 1)),
⟨none,none,.store 6 (.t 2) (.t 35),[],(.lone [1])⟩])
 .ret)))))⟩
theorem F39_ok{x0 r}(h:F39 x0=some r):CallD Tryz.prog 39 [.agg [dI x0.Rev,dI x0.Floor,dI x0.NextUid,dM (x0.Base.map eObject),dM (x0.Objects.map eObject),dM (x0.History.map eChange)]] [] (tupV [.agg [dI x0.Rev,dI x0.Floor,dI x0.NextUid,.own 0 0 0 (r.1.length) none,.own 1 0 0 (r.2.1.length) none,.own 2 0 0 (r.2.2.length) none]]) [some (.arr 0 23 (r.1.map eObject)),some (.arr 0 23 (r.2.1.map eObject)),some (.arr 0 25 (r.2.2.map eChange))]:=by
 rw[F39]at h
 refine zc a39 (by kernel_rfl) rfl (ww ?_)
 obtain⟨t1,ht1,h⟩:=bi h
 refine cN [] (F65_ok ht1) trivial (ww ?_)
 refine kD_new (by simp[wrs,allW,hset]) (ww ?_)
 obtain⟨t2,ht2,h⟩:=bi h
 refine cN [] (F65_ok ht2) trivial (ww ?_)
 refine kD_new (by simp[wrs,allW,hset]) (ww ?_)
 obtain⟨t3,ht3,h⟩:=bi h
 refine cN [] (F81_ok ht3) trivial (ww ?_)
 obtain⟨o4,ho,h⟩:=bi h
 refine cutS (fun s=>s=⟨[(1,.one (.c (.pt 0 0))),(2,.one (.c (.pt 4 0)))],[some (.box [dI x0.Rev,dI x0.Floor,dI x0.NextUid,.own 1 0 0 (t1.length) none,.own 2 0 0 (t2.length) none,.own 3 0 0 (o4.length) none]),some (.arr 0 23 (t1.map eObject)),some (.arr 0 23 (t2.map eObject)),some (.arr 0 25 (o4.map eChange)),some (.box [dI 0,dI 0,dI 0,dN,dN,dN])]⟩) ?_ ?_
 ·have h:=ho
  clear ho
  obtain⟨_,hk,h⟩:=bi h
  have hk:=ck_some hk
  refine ww ?_
  refine bL (fun j s=>∃(o4_1:Nat) (o4_0:List Change),(o4_1≤t3.length∧j=t3.length-o4_1)∧s=⟨[(1,.one (.c (.pt 0 0))),(2,.one (.c (.pt 4 0))),(18,.one (.c (dI ((t3.length:Int))))),(19,.one (.c (dI ((o4_1:Int)))))],[some (.box [dI x0.Rev,dI x0.Floor,dI x0.NextUid,.own 1 0 0 (t1.length) none,.own 2 0 0 (t2.length) none,.own 3 0 0 (o4_0.length) none]),some (.arr 0 23 (t1.map eObject)),some (.arr 0 23 (t2.map eObject)),some (.arr 0 25 (o4_0.map eChange)),some (.box [dI 0,dI 0,dI 0,dN,dN,dN])]⟩∧F39_l4 (t3.drop o4_1) o4_1 o4_0=some o4) (t3.length-0) [some 0,some 2,some 3,some 4,some 1] ⟨0,t3,⟨hk.1,rfl⟩,rfl,h⟩ ?_
  rintro _ _ ⟨o4_1,o4_0,⟨hi,rfl⟩,rfl,h⟩
  refine ww ?_
  refine condS (fun c5=>?_) (fun c5=>?_)
  ·obtain⟨xo4,hxo4,hd⟩:=countY (show(o4_1:Int)<(t3.length:Int)from c5)
   rw[hd,F39_l4]at h
   refine ww ?_
   obtain⟨y6,hy6,h⟩:=bi h
   refine t_idxO (enc:=eChange) (xs:=o4_0) rfl rfl rfl (by first|rfl|simp only[List.length_set]|exact(clrL_len (slI_len (by assumption))).symm) hy6 (ww ?_)
   refine LdRow.rd (rdI_some hy6).2.1 (ww ?_)
   obtain⟨t7,ht7,h⟩:=bi h
   refine cN [] (F36_ok ht7) trivial (ww ?_)
   obtain⟨y8,hy8,h⟩:=bi h
   refine t_idxO (enc:=eChange) (xs:=o4_0) rfl rfl rfl (by first|rfl|simp only[List.length_set]|exact(clrL_len (slI_len (by assumption))).symm) hy8 (ww ?_)
   refine StRow.rd (y':=(⟨y8.Rev,y8.Kind,(⟨(⟨y6.Object.Meta.Kind,y6.Object.Meta.Namespace,y6.Object.Meta.Name,y6.Object.Meta.Uid,y6.Object.Meta.Version,y6.Object.Meta.Generation,y6.Object.Meta.Created,y6.Object.Meta.Deleting,y6.Object.Meta.DeleteAt,t7.1,t7.2.1,t7.2.2.1,t7.2.2.2.1⟩:Meta),(⟨t7.2.2.2.2.1,t7.2.2.2.2.2.1,t7.2.2.2.2.2.2.1,t7.2.2.2.2.2.2.2.1,t7.2.2.2.2.2.2.2.2.1⟩:TValue),(⟨t7.2.2.2.2.2.2.2.2.2.1,t7.2.2.2.2.2.2.2.2.2.2.1,t7.2.2.2.2.2.2.2.2.2.2.2.1,t7.2.2.2.2.2.2.2.2.2.2.2.2.1,t7.2.2.2.2.2.2.2.2.2.2.2.2.2⟩:TValue)⟩:Object)⟩:Change)) (rdI_some hy8).2.1 (by simp[EE.down]) (by first|rfl|(simp only[bor_full'];rfl)) (ww ?_)
   rw[wrapN (by omega)]
   exact eL' (t3.length-(o4_1+1)) [some 0,some 1,some 2,some 3,some 4] ⟨o4_1+1,(o4_0.set ((o4_1:Int)).toNat ((⟨y8.Rev,y8.Kind,(⟨(⟨y6.Object.Meta.Kind,y6.Object.Meta.Namespace,y6.Object.Meta.Name,y6.Object.Meta.Uid,y6.Object.Meta.Version,y6.Object.Meta.Generation,y6.Object.Meta.Created,y6.Object.Meta.Deleting,y6.Object.Meta.DeleteAt,t7.1,t7.2.1,t7.2.2.1,t7.2.2.2.1⟩:Meta),(⟨t7.2.2.2.2.1,t7.2.2.2.2.2.1,t7.2.2.2.2.2.2.1,t7.2.2.2.2.2.2.2.1,t7.2.2.2.2.2.2.2.2.1⟩:TValue),(⟨t7.2.2.2.2.2.2.2.2.2.1,t7.2.2.2.2.2.2.2.2.2.2.1,t7.2.2.2.2.2.2.2.2.2.2.2.1,t7.2.2.2.2.2.2.2.2.2.2.2.2.1,t7.2.2.2.2.2.2.2.2.2.2.2.2.2⟩:TValue)⟩:Object)⟩:Change))),⟨by omega,rfl⟩,rfl,h⟩ (by omega)
  rw[countN (show¬((o4_1:Int)<(t3.length:Int))from c5),F39_l4]at h
  refine ww ?_
  cases h
  exact eM [some 0,some 1,some 2,some 3,some 4] rfl
 rintro _ rfl
 clear ho
 refine ww ?_
 cases h
 exact eF [some 1,some 2,some 3]
def F52(x0:(List Object))(x1:Change):Option ((List Object)×Bool):=(F37 x1.Object.Meta).bind fun t1=>(F35 x0 t1).bind fun t2=>(((if x1.Kind=2 then some (nb t2.2)else some false)).bind fun o3=>(if o3=true then some ((x0,false))else(if x1.Kind=2 then(delI x0 t2.1 ((IntKind.i64.wrap (t2.1+1)))).bind fun t7=>some ((t7,true))else(if t2.2=true then(rdI x0 t2.1).bind fun y9=>some (((x0.set t2.1.toNat x1.Object),true))else(insI x0 t2.1 x1.Object).bind fun t10=>some ((t10,true))))))
def a52:AFn:=⟨49,[(.tmp 4),(.tmp 5)],
 (.seq (.reg [sq 3 (.box (.t 1)),
sq 4 (.mv kN),
sq 5 (.mv (kB false))])
 (.seq (.reg [sq 9 (.mv (.t 0)),
sq 10 (.fieldA 2 (.t 3)),
sq 11 (.fieldA 0 (.t 10)),
sq 12 (.load (some 13) (.t 11)),
sq 13 (.call 37 [(.t 12)]),
sq 14 (.call 35 [(.t 9),(.t 13)]),
sq 8 (.mv (.t 14)),
sq 15 (.ext (.t 8) 0),
sq 16 (.ext (.t 8) 1),
sq 6 (.mv (.t 15)),
sq 7 (.mv (.t 16))])
 (.seq (.block 0 (.seq (.sem (.reg [sq 24 (.fieldA 1 (.t 3)),
sq 25 (.load none (.t 24)),
sq 26 (.bin .eql (.t 25) (kI 2)),
sq 27 (.mv (.t 26)),
zg 28 27 true (.mv (.t 7)),
zg 29 27 true (.not (.t 28)),
sq 30 (.pick (.t 27) (.t 29) (kB false)),
sq 23 (.mv (.t 30))]))
 (.cond (.t 23)
 (.seq (.reg [sq 31 (.mv (.t 0)),
sq 4 (.mv (.t 31)),
sq 5 (.mv (kB false))])
 .ret)
 (.seq (.reg [sq 33 (.fieldA 1 (.t 3)),
sq 34 (.load none (.t 33)),
sq 35 (.bin .eql (.t 34) (kI 2)),
sq 32 (.mv (.t 35))])
 (.cond (.t 32)
 (.seq (.reg [sq 36 (.mv (.t 0)),
sq 37 (.mv (.t 6)),
sq 38 (.mv (.t 6)),
sq 39 (.bin .add (.t 38) (kI 1)),
sq 40 (.call 90 [(.t 36),(.t 37),(.t 39)]),
sq 4 (.mv (.t 40)),
sq 5 (.mv (kB true))])
 .ret)
 (.seq (.reg [sq 42 (.mv (.t 7)),
sq 41 (.mv (.t 42))])
 (.cond (.t 41)
 (.reg [sq 43 (.mv (.t 0)),
sq 44 (.mv (.t 6)),
sq 45 (.fieldA 2 (.t 3)),
sq 46 (.load (some 23) (.t 45)),
sq 47 (.indexA 23 (.t 43) (.t 44)),
⟨none,none,.store 23 (.t 47) (.t 46),[],(.lone [3,45,43])⟩])
 (.reg [sq 17 (.mv (.t 0)),
sq 18 (.mv (.t 6)),
sq 19 (.fieldA 2 (.t 3)),
sq 20 (.load (some 23) (.t 19)),
sq 21 (.bslice 23 [(.t 20)]),
sq 22 (.call 91 [(.t 17),(.t 18),(.t 21)]),
sq 0 (.mv (.t 22))]))))))))
 (.seq (.reg [sq 48 (.mv (.t 0)),
sq 4 (.mv (.t 48)),
sq 5 (.mv (kB true))])
 .ret))))⟩
theorem F52_ok{x0 x1 r}{e0:Nat}(h:F52 x0 x1=some r):CallD Tryz.prog 52 [.c (.own 0 e0 0 (x0.length) none),.agg [dI x1.Rev,dI x1.Kind,dS x1.Object.Meta.Kind,dS x1.Object.Meta.Namespace,dS x1.Object.Meta.Name,dI x1.Object.Meta.Uid,dI x1.Object.Meta.Version,dI x1.Object.Meta.Generation,dI x1.Object.Meta.Created,dB x1.Object.Meta.Deleting,dI x1.Object.Meta.DeleteAt,dM (x1.Object.Meta.Labels.map eLabel),dM (x1.Object.Meta.Owners.map eOwner),dM (x1.Object.Meta.Finalizers.map eS),dM (x1.Object.Meta.Managers.map eManager),dI x1.Object.Spec.Kind,dI x1.Object.Spec.N,dS x1.Object.Spec.S,dM (x1.Object.Spec.List_.map eTValue),dM (x1.Object.Spec.Fields.map eTField),dI x1.Object.Status.Kind,dI x1.Object.Status.N,dS x1.Object.Status.S,dM (x1.Object.Status.List_.map eTValue),dM (x1.Object.Status.Fields.map eTField)]] [some (.arr e0 23 (x0.map eObject))] (tupV [.c (.own 0 (e0+2) 0 (r.1.length) none),.c (dB r.2)]) [some (.arr (e0+2) 23 (r.1.map eObject))]:=by
 rw[F52]at h
 refine zc a52 (by kernel_rfl) rfl (ww ?_)
 obtain⟨t1,ht1,h⟩:=bi h
 refine cN [] (F37_ok ht1) trivial (ww ?_)
 obtain⟨t2,ht2,h⟩:=bi h
 refine callX_bor (F35_ok ht2) (by simp only[borAs,bors,hp,List.getElem?_cons_zero,List.getElem?_cons_succ,Option.join_some,List.drop_zero,bor_full',true_and,Nat.zero_add,List.length_map,Nat.le_refl,nrm,List.length_cons,List.length_nil,Nat.reduceAdd,Nat.reduceLeDiff,List.take_succ_cons,List.take_zero,List.take_nil,List.map_cons,List.map_nil,List.length_set,EE.down]) rfl ?_
 refine ww ?_
 obtain⟨o3,ho,h⟩:=bi h
 refine cutS (fun s=>s=⟨[(0,.one (.c (.own 0 e0 0 (x0.length) none))),(3,.one (.c (.pt 1 0))),(6,.one (.c (dI t2.1))),(7,.one (.c (dB t2.2))),(23,.one (.c (dB o3)))],[some (.arr e0 23 (x0.map eObject)),some (.box [dI x1.Rev,dI x1.Kind,dS x1.Object.Meta.Kind,dS x1.Object.Meta.Namespace,dS x1.Object.Meta.Name,dI x1.Object.Meta.Uid,dI x1.Object.Meta.Version,dI x1.Object.Meta.Generation,dI x1.Object.Meta.Created,dB x1.Object.Meta.Deleting,dI x1.Object.Meta.DeleteAt,dM (x1.Object.Meta.Labels.map eLabel),dM (x1.Object.Meta.Owners.map eOwner),dM (x1.Object.Meta.Finalizers.map eS),dM (x1.Object.Meta.Managers.map eManager),dI x1.Object.Spec.Kind,dI x1.Object.Spec.N,dS x1.Object.Spec.S,dM (x1.Object.Spec.List_.map eTValue),dM (x1.Object.Spec.Fields.map eTField),dI x1.Object.Status.Kind,dI x1.Object.Status.N,dS x1.Object.Status.S,dM (x1.Object.Status.List_.map eTValue),dM (x1.Object.Status.Fields.map eTField)])]⟩) ?_ ?_
 ·have h:=ho
  clear ho
  refine ww ?_
  refine guardSh h (fun g4 h=>?_) (fun g4 h=>?_)
  ·refine ww ?_
   cases h
   exact eM [some 0,some 1] rfl
  refine ww ?_
  cases h
  exact eM [some 0,some 1] rfl
 rintro _ rfl
 clear ho
 refine ww ?_
 refine condBh h (fun c5 h=>?_) (fun c5 h=>?_)
 ·refine ww ?_
  cases h
  exact eF [some 0]
 refine ww ?_
 refine condSh h (fun c6 h=>?_) (fun c6 h=>?_)
 ·refine ww ?_
  obtain⟨t7,ht7,h⟩:=bi h
  refine cN [0] (F90_ok (e0:=e0) ht7) ⟨⟨rfl,trivial⟩,trivial⟩ ?_
  refine ww ?_
  cases h
  exact eF [some 0]
 refine ww ?_
 refine condBh h (fun c8 h=>?_) (fun c8 h=>?_)
 ·refine ww ?_
  obtain⟨y9,hy9,h⟩:=bi h
  refine t_idxO (enc:=eObject) (xs:=x0) rfl rfl rfl (by first|rfl|simp only[List.length_set]|exact(clrL_len (slI_len (by assumption))).symm) hy9 (ww ?_)
  refine StRow.rd (y':=x1.Object) (rdI_some hy9).2.1 (by simp[EE.down]) (by first|rfl|(simp only[bor_full'];rfl)) (ww ?_)
  cases h
  exact eF [some 0]
 refine ww ?_
 refine t_bslice (enc:=eObject) (ys:=[x1.Object]) rfl rfl (by simp[A1.cells]) (by first|rfl|(simp only[List.drop_zero,take_mapL];rfl)|(simp only[lit,List.map_cons,List.map_nil,List.drop_zero,take_mapL,EE.down];done)|(simp only[lit,List.map_cons,List.map_nil,List.drop_zero,take_mapL,EE.down];rfl)) (ww ?_)
 obtain⟨t10,ht10,h⟩:=bi h
 refine cN [0,2] (F91_ok (e0:=e0) (e1:=0) ht10) ⟨⟨rfl,trivial⟩,⟨⟨rfl,trivial⟩,trivial⟩⟩ ?_
 refine ww ?_
 cases h
 exact eF [some 0]
def F66_l3:List Change→Nat→(List Object)→Option ((List Object))
 |[],o3_1,o3_0=>some o3_0
 |xo3::xs,o3_1,o3_0=>(F52 o3_0 xo3).bind fun t5=>F66_l3 xs (o3_1+1) t5.1
def F66(x0:TStore)(x1:Int):Option ((List Object)):=(cloneI x0.Base).bind fun t1=>(slI x0.History 0 ((IntKind.i64.wrap (x1-x0.Floor)))).bind fun s2=>(((ck (0≤s2.length∧s2.length≤4294967290)).bind fun u6=>F66_l3 s2 0 t1).bind fun o3=>some o3)
def a66:AFn:=⟨31,[(.tmp 4)],
 (.seq (.reg [sq 2 (.box (.t 0)),
sq 4 (.mv kN)])
 (.seq (.reg [sq 8 (.fieldA 3 (.t 2)),
sq 9 (.load none (.t 8)),
sq 10 (.call 51 [(.t 9)]),
sq 5 (.mv (.t 10))])
 (.seq (.seq (.reg [sq 11 (.fieldA 5 (.t 2)),
sq 12 (.load none (.t 11)),
sq 13 (.mv (.t 1)),
sq 14 (.fieldA 1 (.t 2)),
sq 15 (.load none (.t 14)),
sq 16 (.bin .sub (.t 13) (.t 15)),
sq 17 (.slice 25 (.t 12) none (some (.t 16)) none),
sq 18 (.len (.t 17)),
sq 19 (.mv (kI 0))])
 (.sem (.block 0 (.loop (.seq (.reg [sq 20 (.bin .lss (.t 19) (.t 18))])
 (.seq (.cond (.t 20)
 .skip
 (.exit 0))
 (.seq (.block 1 (.seq (.reg [sq 21 (.indexA 25 (.t 17) (.t 19)),
sq 22 (.load (some 25) (.t 21)),
sq 7 (.zbox [dI 0,dI 0,dS ⟨#[]⟩,dS ⟨#[]⟩,dS ⟨#[]⟩,dI 0,dI 0,dI 0,dI 0,dB false,dI 0,dN,dN,dN,dN,dI 0,dI 0,dS ⟨#[]⟩,dN,dN,dI 0,dI 0,dS ⟨#[]⟩,dN,dN]),
su (.store 25 (.t 7) (.t 22))])
 (.reg [sq 24 (.mv (.t 5)),
sq 25 (.load (some 25) (.t 7)),
sq 26 (.call 52 [(.t 24),(.t 25)]),
sq 23 (.mv (.t 26)),
sq 27 (.ext (.t 23) 0),
sq 28 (.ext (.t 23) 1),
sq 5 (.mv (.t 27))])))
 (.reg [sq 29 (.bin .add (.t 19) (kI 1)),
sq 19 (.mv (.t 29))]))))))))
 (.seq (.reg [sq 30 (.mv (.t 5)),
sq 4 (.mv (.t 30))])
 .ret))))⟩
theorem F66_ok{x0 x1 r}(h:F66 x0 x1=some r):CallD Tryz.prog 66 [.agg [dI x0.Rev,dI x0.Floor,dI x0.NextUid,dM (x0.Base.map eObject),dM (x0.Objects.map eObject),dM (x0.History.map eChange)],.c (dI x1)] [] (tupV [.c (.own 0 0 0 (r.length) none)]) [some (.arr 0 23 (r.map eObject))]:=by
 rw[F66]at h
 refine zc a66 (by kernel_rfl) rfl (ww ?_)
 obtain⟨t1,ht1,h⟩:=bi h
 refine cN [] (F51_ok ht1) trivial (ww ?_)
 obtain⟨s2,hs2,h⟩:=bi h
 refine t_slice (enc:=eChange) (xs:=x0.History) rfl rfl rfl (fun _=>rfl) hs2 (ww ?_)
 obtain⟨o3,ho,h⟩:=bi h
 refine cutS (fun s=>s=⟨[(5,.one (.c (.own 0 0 0 (o3.length) none)))],[some (.arr 0 23 (o3.map eObject))]⟩) ?_ ?_
 ·have h:=ho
  clear ho
  obtain⟨_,hk,h⟩:=bi h
  have hk:=ck_some hk
  refine ww ?_
  refine bL (fun j s=>∃(o3_1:Nat) (o3_0:List Object),(o3_1≤s2.length∧j=s2.length-o3_1)∧s=⟨[(5,.one (.c (.own 0 0 0 (o3_0.length) none))),(17,.one (.c (dM (s2.map eChange)))),(18,.one (.c (dI ((s2.length:Int))))),(19,.one (.c (dI ((o3_1:Int)))))],[some (.arr 0 23 (o3_0.map eObject))]⟩∧F66_l3 (s2.drop o3_1) o3_1 o3_0=some o3) (s2.length-0) [some 1] ⟨0,t1,⟨hk.1,rfl⟩,rfl,h⟩ ?_
  rintro _ _ ⟨o3_1,o3_0,⟨hi,rfl⟩,rfl,h⟩
  refine ww ?_
  refine condS (fun c4=>?_) (fun c4=>?_)
  ·obtain⟨xo3,hxo3,hd⟩:=countY (show(o3_1:Int)<(s2.length:Int)from c4)
   rw[hd,F66_l3]at h
   refine ww ?_
   refine t_idxF (enc:=eChange) (xs:=s2) rfl rfl hxo3 rfl (ww ?_)
   obtain⟨t5,ht5,h⟩:=bi h
   refine cN [0] (F52_ok (e0:=0) ht5) ⟨⟨rfl,trivial⟩,trivial⟩ ?_
   refine ww ?_
   rw[wrapN (by omega)]
   exact eL' (s2.length-(o3_1+1)) [some 0] ⟨o3_1+1,t5.1,⟨by omega,rfl⟩,rfl,h⟩ (by omega)
  rw[countN (show¬((o3_1:Int)<(s2.length:Int))from c4),F66_l3]at h
  refine ww ?_
  cases h
  exact eM [some 0] rfl
 rintro _ rfl
 clear ho
 refine ww ?_
 cases h
 exact eF [some 0]
def F69(x0:TStore)(x1:Int):Option ((List Object)×((List Change))):=(F66 x0 x1).bind fun t1=>(slI x0.History ((IntKind.i64.wrap (x1-x0.Floor))) ((x0.History.length:Int))).bind fun s2=>some ((t1,s2))
def a69:AFn:=⟨20,[(.cell 4 (some 6))],
 (.seq (.reg [sq 2 (.box (.t 0)),
sq 4 (.zbox [dI 0,dI 0,dI 0,dN,dN,dN])])
 (.seq (.regd [sq 5 (.load (some 6) (.t 2)),
sq 6 (.mv (.t 1)),
zn 7 (.call 66 [(.t 5),(.t 6)]) [0,1] [0,1],
sq 8 (.fieldA 5 (.t 2)),
sd 9 (.load none (.t 8)) [3],
sq 10 (.mv (.t 1)),
sq 11 (.fieldA 1 (.t 2)),
sd 12 (.load none (.t 11)) [6],
sd 13 (.bin .sub (.t 10) (.t 12)) [5,6,7],
sd 14 (.slice 25 (.t 9) (some (.t 13)) none none) [3,4,5,6,7,8],
sq 15 (.mv (.t 1)),
sd 16 (.fieldA 3 (.t 2)) [0,1,2,3,4,6,7],
⟨none,none,.store 1 (.t 16) (.t 7),[0,1,2,3,4,6,7,11],(.lone [9])⟩,
sd 17 (.fieldA 5 (.t 2)) [0,1,2,3,4,5,6,7,8,9,11,12],
⟨none,none,.store 1 (.t 17) (.t 14),[0,1,2,3,4,5,6,7,8,9,11,12,13],(.lone [])⟩,
sd 18 (.fieldA 1 (.t 2)) [0,1,2,3,4,5,6,7,8,9,10,11,12,13,14],
⟨none,none,.store 1 (.t 18) (.t 15),[0,1,2,3,4,5,6,7,8,9,10,11,12,13,14,15],(.lone [])⟩])
 (.seq (.reg [sq 19 (.load (some 6) (.t 2)),
⟨none,none,.store 6 (.t 4) (.t 19),[],(.lone [2])⟩])
 .ret)))⟩
theorem F69_ok{x0 x1 r}(h:F69 x0 x1=some r):CallD Tryz.prog 69 [.agg [dI x0.Rev,dI x0.Floor,dI x0.NextUid,dM (x0.Base.map eObject),dM (x0.Objects.map eObject),dM (x0.History.map eChange)],.c (dI x1)] [] (tupV [.agg [dI x0.Rev,dI x1,dI x0.NextUid,.own 0 0 0 (r.1.length) none,dM (x0.Objects.map eObject),dM (r.2.map eChange)]]) [some (.arr 0 23 (r.1.map eObject))]:=by
 rw[F69]at h
 refine zc a69 (by kernel_rfl) rfl (ww ?_)
 obtain⟨t1,ht1,h⟩:=bi h
 refine cN [] (F66_ok ht1) trivial (ww ?_)
 refine kD_new (by simp[wrs,allW,hset]) (ww ?_)
 obtain⟨s2,hs2,h⟩:=bi h
 refine t_slice (enc:=eChange) (xs:=x0.History) rfl rfl rfl (fun _=>rfl) hs2 (ww ?_)
 cases h
 exact eF [some 2]
def F41(x0:TStore)(x1:Int)(x2:Object):Option (Int×Int×(List Object)×(List Object)×(List Change)):=(F39 x0).bind fun t1=>(F36 x2).bind fun t2=>(F36 x2).bind fun t3=>(F52 t1.2.1 ((⟨(IntKind.i64.wrap (x0.Rev+1)),x1,(⟨(⟨x2.Meta.Kind,x2.Meta.Namespace,x2.Meta.Name,x2.Meta.Uid,x2.Meta.Version,x2.Meta.Generation,x2.Meta.Created,x2.Meta.Deleting,x2.Meta.DeleteAt,t3.1,t3.2.1,t3.2.2.1,t3.2.2.2.1⟩:Meta),(⟨t3.2.2.2.2.1,t3.2.2.2.2.2.1,t3.2.2.2.2.2.2.1,t3.2.2.2.2.2.2.2.1,t3.2.2.2.2.2.2.2.2.1⟩:TValue),(⟨t3.2.2.2.2.2.2.2.2.2.1,t3.2.2.2.2.2.2.2.2.2.2.1,t3.2.2.2.2.2.2.2.2.2.2.2.1,t3.2.2.2.2.2.2.2.2.2.2.2.2.1,t3.2.2.2.2.2.2.2.2.2.2.2.2.2⟩:TValue)⟩:Object)⟩:Change))).bind fun t4=>(apI t1.2.2 ([(⟨(IntKind.i64.wrap (x0.Rev+1)),x1,(⟨(⟨x2.Meta.Kind,x2.Meta.Namespace,x2.Meta.Name,x2.Meta.Uid,x2.Meta.Version,x2.Meta.Generation,x2.Meta.Created,x2.Meta.Deleting,x2.Meta.DeleteAt,t2.1,t2.2.1,t2.2.2.1,t2.2.2.2.1⟩:Meta),(⟨t2.2.2.2.2.1,t2.2.2.2.2.2.1,t2.2.2.2.2.2.2.1,t2.2.2.2.2.2.2.2.1,t2.2.2.2.2.2.2.2.2.1⟩:TValue),(⟨t2.2.2.2.2.2.2.2.2.2.1,t2.2.2.2.2.2.2.2.2.2.2.1,t2.2.2.2.2.2.2.2.2.2.2.2.1,t2.2.2.2.2.2.2.2.2.2.2.2.2.1,t2.2.2.2.2.2.2.2.2.2.2.2.2.2⟩:TValue)⟩:Object)⟩:Change)])).bind fun a5=>(if 4000<(a5.length:Int)then(F69 ((⟨(IntKind.i64.wrap (x0.Rev+1)),x0.Floor,x0.NextUid,t1.1,t4.1,a5⟩:TStore)) ((IntKind.i64.wrap (x0.Floor+1)))).bind fun t7=>(F39 ((⟨((IntKind.i64.wrap (x0.Rev+1))),((IntKind.i64.wrap (x0.Floor+1))),x0.NextUid,t7.1,t4.1,t7.2⟩:TStore))).bind fun t8=>some (((((IntKind.i64.wrap (x0.Rev+1)))),(((IntKind.i64.wrap (x0.Floor+1)))),t8.1,t8.2.1,t8.2.2))else some (((IntKind.i64.wrap (x0.Rev+1)),x0.Floor,t1.1,t4.1,a5)))
def a41:AFn:=⟨50,[(.cell 6 (some 6))],
 (.seq (.reg [sq 3 (.box (.t 0)),
sq 5 (.box (.t 2)),
sq 6 (.zbox [dI 0,dI 0,dI 0,dN,dN,dN])])
 (.seq (.reg [sq 8 (.load (some 6) (.t 3)),
sq 9 (.call 39 [(.t 8)]),
su (.store 6 (.t 3) (.t 9))])
 (.seq (.reg [sq 10 (.fieldA 0 (.t 3)),
sq 11 (.load none (.t 10)),
sq 12 (.bin .add (.t 11) (kI 1)),
sq 13 (.fieldA 0 (.t 3)),
⟨none,none,.store 1 (.t 13) (.t 12),[],(.lone [3,10,3])⟩])
 (.seq (.regd [sq 14 (.fieldA 0 (.t 3)),
sd 15 (.load none (.t 14)) [0],
sq 16 (.mv (.t 1)),
sq 17 (.load (some 23) (.t 5)),
zn 18 (.call 36 [(.t 17)]) [3] [3],
sd 19 (.build [dI 0,dI 0,dS ⟨#[]⟩,dS ⟨#[]⟩,dS ⟨#[]⟩,dI 0,dI 0,dI 0,dI 0,dB false,dI 0,dN,dN,dN,dN,dI 0,dI 0,dS ⟨#[]⟩,dN,dN,dI 0,dI 0,dS ⟨#[]⟩,dN,dN] [(0,1,(.t 15)),(1,1,(.t 16)),(2,23,(.t 18))]) [0,1,2,3,4],
sq 7 (.zbox [dI 0,dI 0,dS ⟨#[]⟩,dS ⟨#[]⟩,dS ⟨#[]⟩,dI 0,dI 0,dI 0,dI 0,dB false,dI 0,dN,dN,dN,dN,dI 0,dI 0,dS ⟨#[]⟩,dN,dN,dI 0,dI 0,dS ⟨#[]⟩,dN,dN]),
⟨none,none,.store 25 (.t 7) (.t 19),[0,1,2,3,4,5,6],(.lone [])⟩])
 (.seq (.regd [sq 21 (.fieldA 4 (.t 3)),
sd 22 (.load none (.t 21)) [0],
sq 23 (.fieldA 0 (.t 3)),
sd 24 (.load none (.t 23)) [2],
sq 25 (.mv (.t 1)),
sq 26 (.load (some 23) (.t 5)),
zl 27 (.call 36 [(.t 26)]) [5] [3,21,3,23],
zl 28 (.build [dI 0,dI 0,dS ⟨#[]⟩,dS ⟨#[]⟩,dS ⟨#[]⟩,dI 0,dI 0,dI 0,dI 0,dB false,dI 0,dN,dN,dN,dN,dI 0,dI 0,dS ⟨#[]⟩,dN,dN,dI 0,dI 0,dS ⟨#[]⟩,dN,dN] [(0,1,(.t 24)),(1,1,(.t 25)),(2,23,(.t 27))]) [2,3,4,5,6] [3,21],
zl 29 (.call 52 [(.t 22),(.t 28)]) [0,1,2,3,4,5,6,7] [],
sd 20 (.mv (.t 29)) [0,1,2,3,4,5,6,7,8],
sd 30 (.ext (.t 20) 0) [0,1,2,3,4,5,6,7,8,9],
sd 31 (.ext (.t 20) 1) [0,1,2,3,4,5,6,7,8,9],
sd 32 (.fieldA 4 (.t 3)) [0,1,2,3,4,5,6,7,8,9,10],
⟨none,none,.store 1 (.t 32) (.t 30),[0,1,2,3,4,5,6,7,8,9,10,12],(.lone [])⟩])
 (.seq (.reg [sq 33 (.fieldA 5 (.t 3)),
sq 34 (.load none (.t 33)),
sq 35 (.load (some 25) (.t 7)),
sq 36 (.bslice 25 [(.t 35)]),
sq 37 (.app 25 368 (.t 34) (.t 36)),
sq 38 (.fieldA 5 (.t 3)),
su (.store 1 (.t 38) (.t 37))])
 (.seq (.seq (.reg [sq 39 (.fieldA 5 (.t 3)),
sq 40 (.load none (.t 39)),
sq 41 (.len (.t 40)),
sq 42 (.bin .gtr (.t 41) (kI 4000))])
 (.cond (.t 42)
 (.reg [sq 43 (.load (some 6) (.t 3)),
sq 44 (.fieldA 1 (.t 3)),
sq 45 (.load none (.t 44)),
sq 46 (.bin .add (.t 45) (kI 1)),
sq 47 (.call 69 [(.t 43),(.t 46)]),
sq 48 (.call 39 [(.t 47)]),
su (.store 6 (.t 3) (.t 48))])
 .skip))
 (.seq (.reg [sq 49 (.load (some 6) (.t 3)),
⟨none,none,.store 6 (.t 6) (.t 49),[],(.lone [3])⟩])
 .ret))))))))⟩
theorem F41_ok{x0 x1 x2 r}(h:F41 x0 x1 x2=some r):CallD Tryz.prog 41 [.agg [dI x0.Rev,dI x0.Floor,dI x0.NextUid,dM (x0.Base.map eObject),dM (x0.Objects.map eObject),dM (x0.History.map eChange)],.c (dI x1),.agg [dS x2.Meta.Kind,dS x2.Meta.Namespace,dS x2.Meta.Name,dI x2.Meta.Uid,dI x2.Meta.Version,dI x2.Meta.Generation,dI x2.Meta.Created,dB x2.Meta.Deleting,dI x2.Meta.DeleteAt,dM (x2.Meta.Labels.map eLabel),dM (x2.Meta.Owners.map eOwner),dM (x2.Meta.Finalizers.map eS),dM (x2.Meta.Managers.map eManager),dI x2.Spec.Kind,dI x2.Spec.N,dS x2.Spec.S,dM (x2.Spec.List_.map eTValue),dM (x2.Spec.Fields.map eTField),dI x2.Status.Kind,dI x2.Status.N,dS x2.Status.S,dM (x2.Status.List_.map eTValue),dM (x2.Status.Fields.map eTField)]] [] (tupV [.agg [dI r.1,dI r.2.1,dI x0.NextUid,.own 0 0 0 (r.2.2.1.length) none,.own 1 0 0 (r.2.2.2.1.length) none,.own 2 0 0 (r.2.2.2.2.length) none]]) [some (.arr 0 23 (r.2.2.1.map eObject)),some (.arr 0 23 (r.2.2.2.1.map eObject)),some (.arr 0 25 (r.2.2.2.2.map eChange))]:=by
 rw[F41]at h
 refine zc a41 (by kernel_rfl) rfl (ww ?_)
 obtain⟨t1,ht1,h⟩:=bi h
 refine cN [] (F39_ok ht1) trivial (ww ?_)
 obtain⟨t2,ht2,h⟩:=bi h
 refine cN [] (F36_ok ht2) trivial (ww ?_)
 refine kD_new (by simp[wrs,allW,hset]) (ww ?_)
 refine kD_new (by simp[wrs,allW,hset]) (ww ?_)
 obtain⟨t3,ht3,h⟩:=bi h
 refine cN [] (F36_ok ht3) trivial (ww ?_)
 obtain⟨t4,ht4,h⟩:=bi h
 refine callX_gen (as1:=[.c (.own 4 0 0 (t1.2.1.length) none),.agg [dI ((IntKind.i64.wrap (x0.Rev+1))),dI x1,dS x2.Meta.Kind,dS x2.Meta.Namespace,dS x2.Meta.Name,dI x2.Meta.Uid,dI x2.Meta.Version,dI x2.Meta.Generation,dI x2.Meta.Created,dB x2.Meta.Deleting,dI x2.Meta.DeleteAt,dM (t3.1.map eLabel),dM (t3.2.1.map eOwner),dM (t3.2.2.1.map eS),dM (t3.2.2.2.1.map eManager),dI t3.2.2.2.2.1,dI t3.2.2.2.2.2.1,dS t3.2.2.2.2.2.2.1,dM (t3.2.2.2.2.2.2.2.1.map eTValue),dM (t3.2.2.2.2.2.2.2.2.1.map eTField),dI t3.2.2.2.2.2.2.2.2.2.1,dI t3.2.2.2.2.2.2.2.2.2.2.1,dS t3.2.2.2.2.2.2.2.2.2.2.2.1,dM (t3.2.2.2.2.2.2.2.2.2.2.2.2.1.map eTValue),dM (t3.2.2.2.2.2.2.2.2.2.2.2.2.2.map eTField)]]) [(11,.arr 1 2 []),(12,.arr 1 5 []),(13,.arr 1 1 []),(14,.arr 1 2 [])] [some 0,some 1,some 2,some 3,some 4,some 5,some 6,some 7,some 8,some 9,some 10,none,none,none,none] [4] (F52_ok (e0:=0) ht4) ⟨?_,rfl,?_⟩ ?_ ?_ ?_ ?_ ?_ ?_ ?_ ?_
 ·simp only[ZZ.down,Nat.reduceEqDiff,reduceCtorEq,Nat.reduceAdd,Nat.reduceLeDiff,Nat.reduceLT,Nat.reduceBNe,EE.down]
 ·simp only[ZZ.down,Nat.reduceEqDiff,reduceCtorEq,Nat.reduceAdd,Nat.reduceLeDiff,Nat.reduceLT,Nat.reduceBNe,EE.down]
 ·simp only[ZZ.down,Nat.reduceEqDiff,reduceCtorEq,Nat.reduceAdd,Nat.reduceLeDiff,Nat.reduceLT,Nat.reduceBNe,EE.down]
 ·rfl
 ·rfl
 ·simp[liveAll,A1.live,C.live,hp]
 ·rfl
 ·decide
 ·exact⟨⟨rfl,trivial⟩,trivial⟩
 refine ww ?_
 refine t_bslice (enc:=eChange) (ys:=[(⟨(IntKind.i64.wrap (x0.Rev+1)),x1,(⟨(⟨x2.Meta.Kind,x2.Meta.Namespace,x2.Meta.Name,x2.Meta.Uid,x2.Meta.Version,x2.Meta.Generation,x2.Meta.Created,x2.Meta.Deleting,x2.Meta.DeleteAt,t2.1,t2.2.1,t2.2.2.1,t2.2.2.2.1⟩:Meta),(⟨t2.2.2.2.2.1,t2.2.2.2.2.2.1,t2.2.2.2.2.2.2.1,t2.2.2.2.2.2.2.2.1,t2.2.2.2.2.2.2.2.2.1⟩:TValue),(⟨t2.2.2.2.2.2.2.2.2.2.1,t2.2.2.2.2.2.2.2.2.2.2.1,t2.2.2.2.2.2.2.2.2.2.2.2.1,t2.2.2.2.2.2.2.2.2.2.2.2.2.1,t2.2.2.2.2.2.2.2.2.2.2.2.2.2⟩:TValue)⟩:Object)⟩:Change)]) rfl rfl (by simp[A1.cells]) (by first|rfl|(simp only[List.drop_zero,take_mapL];rfl)|(simp only[lit,List.map_cons,List.map_nil,List.drop_zero,take_mapL,EE.down];done)|(simp only[lit,List.map_cons,List.map_nil,List.drop_zero,take_mapL,EE.down];rfl)) (ww ?_)
 obtain⟨a5,ha5,h⟩:=bi h
 refine t_app (enc:=eChange) (xs:=t1.2.2) rfl rfl (by first|rfl|simp only[List.length_set]|exact(clrL_len (slI_len (by assumption))).symm) rfl (rows_full (enc:=eChange) (by first|rfl|simp only[List.length_set]|exact(clrL_len (slI_len (by assumption))).symm) rfl) ha5 (ww ?_)
 refine condSh h (fun c6 h=>?_) (fun c6 h=>?_)
 ·refine ww ?_
  obtain⟨t7,ht7,h⟩:=bi h
  refine callX_gen (as1:=[.agg [dI ((IntKind.i64.wrap (x0.Rev+1))),dI x0.Floor,dI x0.NextUid,dM (t1.1.map eObject),dM (t4.1.map eObject),dM (a5.map eChange)],.c (dI ((IntKind.i64.wrap (x0.Floor+1))))]) [(3,.arr 1 23 []),(4,.arr 3 23 []),(5,.arr 2 25 []),(0,.box [dI ((IntKind.i64.wrap (x0.Rev+1))),dI x0.Floor,dI x0.NextUid,.own 3 0 0 0 (some 0),.own 4 2 0 0 (some 0),.own 5 1 0 0 (some 0)]),(10,.box [dI ((IntKind.i64.wrap (x0.Rev+1))),dI x1,dS x2.Meta.Kind,dS x2.Meta.Namespace,dS x2.Meta.Name,dI x2.Meta.Uid,dI x2.Meta.Version,dI x2.Meta.Generation,dI x2.Meta.Created,dB x2.Meta.Deleting,dI x2.Meta.DeleteAt,.own 6 0 0 0 (some 0),.own 7 0 0 0 (some 0),.own 8 0 0 0 (some 0),.own 9 0 0 0 (some 0),dI t2.2.2.2.2.1,dI t2.2.2.2.2.2.1,dS t2.2.2.2.2.2.2.1,dM (t2.2.2.2.2.2.2.2.1.map eTValue),dM (t2.2.2.2.2.2.2.2.2.1.map eTField),dI t2.2.2.2.2.2.2.2.2.2.1,dI t2.2.2.2.2.2.2.2.2.2.2.1,dS t2.2.2.2.2.2.2.2.2.2.2.2.1,dM (t2.2.2.2.2.2.2.2.2.2.2.2.2.1.map eTValue),dM (t2.2.2.2.2.2.2.2.2.2.2.2.2.2.map eTField)])] [some 0,some 1,some 2,none,none,none,some 6,some 7,some 8,some 9,some 10,some 11,some 12,some 13,some 14,some 15] [] (F69_ok ht7) ⟨?_,rfl,?_⟩ ?_ ?_ ?_ ?_ ?_ ?_ ?_ ?_
  ·simp only[ZZ.down,Nat.reduceEqDiff,reduceCtorEq,Nat.reduceAdd,Nat.reduceLeDiff,Nat.reduceLT,Nat.reduceBNe,EE.down]
  ·simp only[ZZ.down,Nat.reduceEqDiff,reduceCtorEq,Nat.reduceAdd,Nat.reduceLeDiff,Nat.reduceLT,Nat.reduceBNe,EE.down]
  ·simp only[ZZ.down,Nat.reduceEqDiff,reduceCtorEq,Nat.reduceAdd,Nat.reduceLeDiff,Nat.reduceLT,Nat.reduceBNe,EE.down]
  ·rfl
  ·rfl
  ·simp[liveAll,A1.live,C.live]
  ·rfl
  ·decide
  ·exact trivial
  refine ww ?_
  obtain⟨t8,ht8,h⟩:=bi h
  refine callX_gen (as1:=[.agg [dI (((IntKind.i64.wrap (x0.Rev+1)))),dI (((IntKind.i64.wrap (x0.Floor+1)))),dI x0.NextUid,dM (t7.1.map eObject),dM (t4.1.map eObject),dM (t7.2.map eChange)]]) [(16,.arr 1 23 [])] [some 0,some 1,some 2,some 3,some 4,some 5,some 6,some 7,some 8,some 9,some 10,some 11,some 12,some 13,some 14,some 15,none] [] (F39_ok ht8) ⟨?_,rfl,?_⟩ ?_ ?_ ?_ ?_ ?_ ?_ ?_ ?_
  ·simp only[ZZ.down,Nat.reduceEqDiff,reduceCtorEq,Nat.reduceAdd,Nat.reduceLeDiff,Nat.reduceLT,Nat.reduceBNe,EE.down]
  ·simp only[ZZ.down,Nat.reduceEqDiff,reduceCtorEq,Nat.reduceAdd,Nat.reduceLeDiff,Nat.reduceLT,Nat.reduceBNe,EE.down]
  ·simp only[ZZ.down,Nat.reduceEqDiff,reduceCtorEq,Nat.reduceAdd,Nat.reduceLeDiff,Nat.reduceLT,Nat.reduceBNe,EE.down]
  ·rfl
  ·rfl
  ·simp[liveAll,A1.live,C.live]
  ·rfl
  ·decide
  ·exact trivial
  refine ww ?_
  cases h
  exact eF [some 17,some 18,some 19]
 refine ww ?_
 cases h
 exact eF [some 3,some 4,some 5]
def F10(x0:TStore)(x1:ByteArray):Option (ByteArray×ByteArray×ByteArray×Int×Int×Int×Int×Bool×Int×(List Label)×(List Owner)×(List ByteArray)×(List Manager)×Int×Int×ByteArray×((List TValue))×((List TField))×Int×Int×ByteArray×((List TValue))×((List TField))×Bool):=(F35 x0.Objects x1).bind fun t1=>(if t1.2=true then(rdI x0.Objects t1.1).bind fun y3=>(F36 y3).bind fun t4=>some ((y3.Meta.Kind,y3.Meta.Namespace,y3.Meta.Name,y3.Meta.Uid,y3.Meta.Version,y3.Meta.Generation,y3.Meta.Created,y3.Meta.Deleting,y3.Meta.DeleteAt,t4.1,t4.2.1,t4.2.2.1,t4.2.2.2.1,t4.2.2.2.2.1,t4.2.2.2.2.2.1,t4.2.2.2.2.2.2.1,t4.2.2.2.2.2.2.2.1,t4.2.2.2.2.2.2.2.2.1,t4.2.2.2.2.2.2.2.2.2.1,t4.2.2.2.2.2.2.2.2.2.2.1,t4.2.2.2.2.2.2.2.2.2.2.2.1,t4.2.2.2.2.2.2.2.2.2.2.2.2.1,t4.2.2.2.2.2.2.2.2.2.2.2.2.2,true))else some (((⟨#[]⟩:ByteArray),(⟨#[]⟩:ByteArray),(⟨#[]⟩:ByteArray),0,0,0,0,false,0,[],[],[],[],0,0,(⟨#[]⟩:ByteArray),[],[],0,0,(⟨#[]⟩:ByteArray),[],[],false)))
def a10:AFn:=⟨23,[(.cell 4 (some 23)),(.tmp 5)],
 (.seq (.reg [sq 2 (.box (.t 0)),
sq 4 (.zbox [dS ⟨#[]⟩,dS ⟨#[]⟩,dS ⟨#[]⟩,dI 0,dI 0,dI 0,dI 0,dB false,dI 0,dN,dN,dN,dN,dI 0,dI 0,dS ⟨#[]⟩,dN,dN,dI 0,dI 0,dS ⟨#[]⟩,dN,dN]),
sq 5 (.mv (kB false))])
 (.seq (.seq (.reg [sq 9 (.fieldA 4 (.t 2)),
sq 10 (.load none (.t 9)),
sq 11 (.mv (.t 1)),
sq 12 (.call 35 [(.t 10),(.t 11)]),
sq 8 (.mv (.t 12)),
sq 13 (.ext (.t 8) 0),
sq 14 (.ext (.t 8) 1),
sq 6 (.mv (.t 13)),
sq 7 (.mv (.t 14))])
 (.seq (.reg [sq 15 (.mv (.t 7))])
 (.cond (.t 15)
 (.seq (.reg [sq 16 (.fieldA 4 (.t 2)),
sq 17 (.load none (.t 16)),
sq 18 (.mv (.t 6)),
sq 19 (.indexA 23 (.t 17) (.t 18)),
sq 20 (.load (some 23) (.t 19)),
sq 21 (.call 36 [(.t 20)]),
su (.store 23 (.t 4) (.t 21)),
sq 5 (.mv (kB true))])
 .ret)
 .skip)))
 (.seq (.reg [sq 22 (.build [dS ⟨#[]⟩,dS ⟨#[]⟩,dS ⟨#[]⟩,dI 0,dI 0,dI 0,dI 0,dB false,dI 0,dN,dN,dN,dN,dI 0,dI 0,dS ⟨#[]⟩,dN,dN,dI 0,dI 0,dS ⟨#[]⟩,dN,dN] []),
su (.store 23 (.t 4) (.t 22)),
sq 5 (.mv (kB false))])
 .ret)))⟩
theorem F10_ok{x0 x1 r}(h:F10 x0 x1=some r):CallD Tryz.prog 10 [.agg [dI x0.Rev,dI x0.Floor,dI x0.NextUid,dM (x0.Base.map eObject),dM (x0.Objects.map eObject),dM (x0.History.map eChange)],.c (dS x1)] [] (tupV [.agg [dS r.1,dS r.2.1,dS r.2.2.1,dI r.2.2.2.1,dI r.2.2.2.2.1,dI r.2.2.2.2.2.1,dI r.2.2.2.2.2.2.1,dB r.2.2.2.2.2.2.2.1,dI r.2.2.2.2.2.2.2.2.1,.own 0 0 0 (r.2.2.2.2.2.2.2.2.2.1.length) none,.own 1 0 0 (r.2.2.2.2.2.2.2.2.2.2.1.length) none,.own 2 0 0 (r.2.2.2.2.2.2.2.2.2.2.2.1.length) none,.own 3 0 0 (r.2.2.2.2.2.2.2.2.2.2.2.2.1.length) none,dI r.2.2.2.2.2.2.2.2.2.2.2.2.2.1,dI r.2.2.2.2.2.2.2.2.2.2.2.2.2.2.1,dS r.2.2.2.2.2.2.2.2.2.2.2.2.2.2.2.1,dM (r.2.2.2.2.2.2.2.2.2.2.2.2.2.2.2.2.1.map eTValue),dM (r.2.2.2.2.2.2.2.2.2.2.2.2.2.2.2.2.2.1.map eTField),dI r.2.2.2.2.2.2.2.2.2.2.2.2.2.2.2.2.2.2.1,dI r.2.2.2.2.2.2.2.2.2.2.2.2.2.2.2.2.2.2.2.1,dS r.2.2.2.2.2.2.2.2.2.2.2.2.2.2.2.2.2.2.2.2.1,dM (r.2.2.2.2.2.2.2.2.2.2.2.2.2.2.2.2.2.2.2.2.2.1.map eTValue),dM (r.2.2.2.2.2.2.2.2.2.2.2.2.2.2.2.2.2.2.2.2.2.2.1.map eTField)],.c (dB r.2.2.2.2.2.2.2.2.2.2.2.2.2.2.2.2.2.2.2.2.2.2.2)]) [some (.arr 0 2 (r.2.2.2.2.2.2.2.2.2.1.map eLabel)),some (.arr 0 5 (r.2.2.2.2.2.2.2.2.2.2.1.map eOwner)),some (.arr 0 1 (r.2.2.2.2.2.2.2.2.2.2.2.1.map eS)),some (.arr 0 2 (r.2.2.2.2.2.2.2.2.2.2.2.2.1.map eManager))]:=by
 rw[F10]at h
 refine zc a10 (by kernel_rfl) rfl (ww ?_)
 obtain⟨t1,ht1,h⟩:=bi h
 refine cN [] (F35_ok ht1) trivial (ww ?_)
 refine condBh h (fun c2 h=>?_) (fun c2 h=>?_)
 ·refine ww ?_
  obtain⟨y3,hy3,h⟩:=bi h
  refine t_idxF (enc:=eObject) (xs:=x0.Objects) rfl rfl hy3 rfl (ww ?_)
  obtain⟨t4,ht4,h⟩:=bi h
  refine cN [] (F36_ok ht4) trivial (ww ?_)
  cases h
  exact eF [some 2,some 3,some 4,some 5]
 refine ww ?_
 cases h
 exact eF [none,none,none,none]
def F82(rc49:TValue→TValue→Option (Int))(x0:TValue)(x1:TValue):Option (Int):=(F113 x0.Kind x1.Kind).bind fun t1=>(F113 x0.N x1.N).bind fun t2=>(F72 x0.S x1.S).bind fun t3=>(F114 rc49 x0.List_ x1.List_).bind fun t4=>(F115 rc49 x0.Fields x1.Fields).bind fun t5=>(F112 ((lit [t1,t2,t3,t4,t5]))).bind fun t6=>some t6
def a82:AFn:=⟨32,[(.tmp 4)],
 (.seq (.reg [sq 2 (.box (.t 0)),
sq 3 (.box (.t 1)),
sq 4 (.mv (kI 0))])
 (.seq (.regd [sq 5 (.fieldA 0 (.t 2)),
sd 6 (.load none (.t 5)) [0],
sq 7 (.fieldA 0 (.t 3)),
sd 8 (.load none (.t 7)) [2],
zn 9 (.call 113 [(.t 6),(.t 8)]) [0,1,2,3] [0,1,2,3],
sq 10 (.fieldA 1 (.t 2)),
sd 11 (.load none (.t 10)) [5],
sq 12 (.fieldA 1 (.t 3)),
sd 13 (.load none (.t 12)) [7],
zn 14 (.call 113 [(.t 11),(.t 13)]) [0,1,2,3,4,5,6,7,8] [0,1,2,3,4,5,6,7,8],
sq 15 (.fieldA 2 (.t 2)),
sd 16 (.load none (.t 15)) [10],
sq 17 (.fieldA 2 (.t 3)),
sd 18 (.load none (.t 17)) [12],
zn 19 (.call 72 [(.t 16),(.t 18)]) [0,1,2,3,4,5,6,7,8,9,10,11,12,13] [0,1,2,3,4,5,6,7,8,9,10,11,12,13],
sq 20 (.fieldA 3 (.t 2)),
sd 21 (.load none (.t 20)) [15],
sq 22 (.fieldA 3 (.t 3)),
sd 23 (.load none (.t 22)) [17],
zn 24 (.call 114 [(.t 21),(.t 23),(.f 82)]) [0,1,2,3,4,5,6,7,8,9,10,11,12,13,14,15,16,17,18] [0,1,2,3,4,5,6,7,8,9,10,11,12,13,14,15,16,17,18],
sq 25 (.fieldA 4 (.t 2)),
sd 26 (.load none (.t 25)) [20],
sq 27 (.fieldA 4 (.t 3)),
sd 28 (.load none (.t 27)) [22],
zl 29 (.call 115 [(.t 26),(.t 28),(.f 116)]) [0,1,2,3,4,5,6,7,8,9,10,11,12,13,14,15,16,17,18,19,20,21,22,23] [],
zl 30 (.bslice 1 [(.t 9),(.t 14),(.t 19),(.t 24),(.t 29)]) [0,1,2,3,4,5,6,7,8,9,10,11,12,13,14,15,16,17,18,19,20,21,22,23,24] [],
zl 31 (.call 112 [(.t 30)]) [0,1,2,3,4,5,6,7,8,9,10,11,12,13,14,15,16,17,18,19,20,21,22,23,24,25] [],
sd 4 (.mv (.t 31)) [0,1,2,3,4,5,6,7,8,9,10,11,12,13,14,15,16,17,18,19,20,21,22,23,24,25,26]])
 .ret))⟩
theorem F82_ok{rc49:TValue→TValue→Option (Int)}(ih49:∀{x0:TValue} {x1:TValue} {r:Int} (h:rc49 x0 x1=some r),CallD Tryz.prog 82 [.agg [dI x0.Kind,dI x0.N,dS x0.S,dM (x0.List_.map eTValue),dM (x0.Fields.map eTField)],.agg [dI x1.Kind,dI x1.N,dS x1.S,dM (x1.List_.map eTValue),dM (x1.Fields.map eTField)]] [] (tupV [.c (dI r)]) []){x0:TValue}{x1:TValue}{r:Int}(h:F82 rc49 x0 x1=some r):CallD Tryz.prog 82 [.agg [dI x0.Kind,dI x0.N,dS x0.S,dM (x0.List_.map eTValue),dM (x0.Fields.map eTField)],.agg [dI x1.Kind,dI x1.N,dS x1.S,dM (x1.List_.map eTValue),dM (x1.Fields.map eTField)]] [] (tupV [.c (dI r)]) []:=by
 rw[F82]at h
 refine zc a82 (by kernel_rfl) rfl (ww ?_)
 obtain⟨t1,ht1,h⟩:=bi h
 refine cN [] (F113_ok ht1) trivial (ww ?_)
 obtain⟨t2,ht2,h⟩:=bi h
 refine cN [] (F113_ok ht2) trivial (ww ?_)
 obtain⟨t3,ht3,h⟩:=bi h
 refine cN [] (F72_ok ht3) trivial (ww ?_)
 obtain⟨t4,ht4,h⟩:=bi h
 refine cN [] (F114_ok ih49 ht4) trivial (ww ?_)
 obtain⟨t5,ht5,h⟩:=bi h
 refine cN [] (F115_ok ih49 ht5) trivial (ww ?_)
 refine t_bslice (enc:=eI) (ys:=(lit [t1,t2,t3,t4,t5])) rfl rfl (by simp[A1.cells]) (by first|rfl|(simp only[List.drop_zero,take_mapL];rfl)|(simp only[lit,List.map_cons,List.map_nil,List.drop_zero,take_mapL,EE.down];done)|(simp only[lit,List.map_cons,List.map_nil,List.drop_zero,take_mapL,EE.down];rfl)) (ww ?_)
 obtain⟨t6,ht6,h⟩:=bi h
 refine callX_bor (F112_ok ht6) (by simp only[borAs,bors,hp,List.getElem?_cons_zero,List.getElem?_cons_succ,Option.join_some,List.drop_zero,bor_full',true_and,Nat.zero_add,List.length_map,Nat.le_refl,nrm,List.length_cons,List.length_nil,Nat.reduceAdd,Nat.reduceLeDiff,List.take_succ_cons,List.take_zero,List.take_nil,List.map_cons,List.map_nil,List.length_set,EE.down]) rfl ?_
 refine ww ?_
 cases h
 exact eF []
def F82k:Nat→TValue→TValue→Option (Int)
 |0=>fun _ _=>none
 |k+1=>F82 (F82k k)
theorem F82k_ok(k:Nat){x0:TValue}{x1:TValue}{r:Int}(h:F82k k x0 x1=some r):CallD Tryz.prog 82 [.agg [dI x0.Kind,dI x0.N,dS x0.S,dM (x0.List_.map eTValue),dM (x0.Fields.map eTField)],.agg [dI x1.Kind,dI x1.N,dS x1.S,dM (x1.List_.map eTValue),dM (x1.Fields.map eTField)]] [] (tupV [.c (dI r)]) []:=by
 induction k generalizing x0 x1 r with
 |zero=>cases(show(none:Option (Int))=some _ from h)
 |succ k ih=>exact F82_ok (fun h=>ih h) h
def F40(x0:TValue)(x1:TValue):Option (Bool):=(F82k 1099511627776 x0 x1).bind fun t1=>some (decide (t1=0))
def a40:AFn:=⟨9,[(.tmp 4)],
 (.seq (.reg [sq 2 (.box (.t 0)),
sq 3 (.box (.t 1)),
sq 4 (.mv (kB false))])
 (.seq (.reg [sq 5 (.load (some 5) (.t 2)),
sq 6 (.load (some 5) (.t 3)),
sq 7 (.call 82 [(.t 5),(.t 6)]),
sq 8 (.bin .eql (.t 7) (kI 0)),
sq 4 (.mv (.t 8))])
 .ret))⟩
theorem F40_ok{x0 x1 r}(h:F40 x0 x1=some r):CallD Tryz.prog 40 [.agg [dI x0.Kind,dI x0.N,dS x0.S,dM (x0.List_.map eTValue),dM (x0.Fields.map eTField)],.agg [dI x1.Kind,dI x1.N,dS x1.S,dM (x1.List_.map eTValue),dM (x1.Fields.map eTField)]] [] (tupV [.c (dB r)]) []:=by
 rw[F40]at h
 refine zc a40 (by kernel_rfl) rfl (ww ?_)
 obtain⟨t1,ht1,h⟩:=bi h
 refine cN [] (F82k_ok 1099511627776 ht1) trivial (ww ?_)
 cases h
 exact eF []
def F16(x0:Object)(x1:Object):Option (Bool):=(((F44 x0.Meta).bind fun t2=>(F44 x1.Meta).bind fun t3=>(if¬(x0.Meta.Kind=x1.Meta.Kind∧x0.Meta.Namespace=x1.Meta.Namespace∧x0.Meta.Name=x1.Meta.Name)then some true else(if¬(x0.Meta.Uid=x1.Meta.Uid)then some true else(if¬(x0.Meta.Version=x1.Meta.Version)then some true else(if¬(x0.Meta.Generation=x1.Meta.Generation)then some true else(if¬(x0.Meta.Created=x1.Meta.Created)then some true else(if(((x0.Meta.Deleting==x1.Meta.Deleting)!=true))=true then some true else some (decide (¬(x0.Meta.DeleteAt=x1.Meta.DeleteAt)))))))))).bind fun o1=>(if o1=true then some false else(((F45 x0.Meta.Labels x1.Meta.Labels).bind fun t12=>(if(nb t12)=true then some true else(F46 x0.Meta.Owners x1.Meta.Owners).bind fun t14=>(if(nb t14)=true then some true else(F47 x0.Meta.Finalizers x1.Meta.Finalizers).bind fun t16=>some (nb t16)))).bind fun o11=>(if o11=true then some false else(((F49 x0.Meta.Managers x1.Meta.Managers).bind fun t19=>(if t19=true then(F40 x0.Spec x1.Spec).bind fun t21=>(if t21=true then(F40 x0.Status x1.Status).bind fun t23=>some t23 else some false)else some false)).bind fun o18=>some o18)))))
def a16:AFn:=⟨101,[(.tmp 4)],
 (.seq (.reg [sq 2 (.box (.t 0)),
sq 3 (.box (.t 1)),
sq 4 (.mv (kB false))])
 (.seq (.regd [sq 8 (.fieldA 0 (.t 2)),
sd 9 (.load (some 13) (.t 8)) [0],
sq 10 (.fieldA 0 (.t 3)),
sd 11 (.load (some 13) (.t 10)) [2],
sq 5 (.zbox [dS ⟨#[]⟩,dS ⟨#[]⟩,dS ⟨#[]⟩,dI 0,dI 0,dI 0,dI 0,dB false,dI 0,dN,dN,dN,dN]),
sq 6 (.zbox [dS ⟨#[]⟩,dS ⟨#[]⟩,dS ⟨#[]⟩,dI 0,dI 0,dI 0,dI 0,dB false,dI 0,dN,dN,dN,dN]),
⟨none,none,.store 13 (.t 5) (.t 9),[0,1,4,5],(.lone [3,10])⟩,
⟨none,none,.store 13 (.t 6) (.t 11),[0,1,2,3,4,5,6],(.lone [])⟩])
 (.seq (.seq (.sem (.regd [sq 12 (.load (some 13) (.t 5)),
zn 13 (.call 44 [(.t 12)]) [0] [0],
sq 14 (.load (some 13) (.t 6)),
zl 15 (.call 44 [(.t 14)]) [0,1,2] [],
zl 16 (.eqs true [(0,2),(1,2),(2,2)] (.t 13) (.t 15)) [0,1,2,3] [],
sd 17 (.mv (.t 16)) [0,1,2,3,4],
⟨(some 18),(some (17,false)),.fieldA 3 (.t 5),[0,1,2,3,4,5],(.new [])⟩,
⟨(some 19),(some (17,false)),.load none (.t 18),[0,1,2,3,4,5,6],(.new [])⟩,
⟨(some 20),(some (17,false)),.fieldA 3 (.t 6),[0,1,2,3,4,5],(.new [])⟩,
⟨(some 21),(some (17,false)),.load none (.t 20),[0,1,2,3,4,5,8],(.new [])⟩,
⟨(some 22),(some (17,false)),.bin .neq (.t 19) (.t 21),[0,1,2,3,4,5,6,7,8,9],(.new [])⟩,
zl 23 (.pick (.t 17) (kB true) (.t 22)) [0,1,2,3,4,5,6,7,8,9,10] [],
sd 24 (.mv (.t 23)) [0,1,2,3,4,5,6,7,8,9,10,11],
⟨(some 25),(some (24,false)),.fieldA 4 (.t 5),[0,1,2,3,4,5,6,7,8,9,10,11,12],(.new [])⟩,
⟨(some 26),(some (24,false)),.load none (.t 25),[0,1,2,3,4,5,6,7,8,9,10,11,12,13],(.new [])⟩,
⟨(some 27),(some (24,false)),.fieldA 4 (.t 6),[0,1,2,3,4,5,6,7,8,9,10,11,12],(.new [])⟩,
⟨(some 28),(some (24,false)),.load none (.t 27),[0,1,2,3,4,5,6,7,8,9,10,11,12,15],(.new [])⟩,
⟨(some 29),(some (24,false)),.bin .neq (.t 26) (.t 28),[0,1,2,3,4,5,6,7,8,9,10,11,12,13,14,15,16],(.new [])⟩,
zl 30 (.pick (.t 24) (kB true) (.t 29)) [0,1,2,3,4,5,6,7,8,9,10,11,12,13,14,15,16,17] [],
sd 31 (.mv (.t 30)) [0,1,2,3,4,5,6,7,8,9,10,11,12,13,14,15,16,17,18],
⟨(some 32),(some (31,false)),.fieldA 5 (.t 5),[0,1,2,3,4,5,6,7,8,9,10,11,12,13,14,15,16,17,18,19],(.new [])⟩,
⟨(some 33),(some (31,false)),.load none (.t 32),[0,1,2,3,4,5,6,7,8,9,10,11,12,13,14,15,16,17,18,19,20],(.new [])⟩,
⟨(some 34),(some (31,false)),.fieldA 5 (.t 6),[0,1,2,3,4,5,6,7,8,9,10,11,12,13,14,15,16,17,18,19],(.new [])⟩,
⟨(some 35),(some (31,false)),.load none (.t 34),[0,1,2,3,4,5,6,7,8,9,10,11,12,13,14,15,16,17,18,19,22],(.new [])⟩,
⟨(some 36),(some (31,false)),.bin .neq (.t 33) (.t 35),[0,1,2,3,4,5,6,7,8,9,10,11,12,13,14,15,16,17,18,19,20,21,22,23],(.new [])⟩,
zl 37 (.pick (.t 31) (kB true) (.t 36)) [0,1,2,3,4,5,6,7,8,9,10,11,12,13,14,15,16,17,18,19,20,21,22,23,24] [],
sd 38 (.mv (.t 37)) [0,1,2,3,4,5,6,7,8,9,10,11,12,13,14,15,16,17,18,19,20,21,22,23,24,25],
⟨(some 39),(some (38,false)),.fieldA 6 (.t 5),[0,1,2,3,4,5,6,7,8,9,10,11,12,13,14,15,16,17,18,19,20,21,22,23,24,25,26],(.new [])⟩,
⟨(some 40),(some (38,false)),.load none (.t 39),[0,1,2,3,4,5,6,7,8,9,10,11,12,13,14,15,16,17,18,19,20,21,22,23,24,25,26,27],(.new [])⟩,
⟨(some 41),(some (38,false)),.fieldA 6 (.t 6),[0,1,2,3,4,5,6,7,8,9,10,11,12,13,14,15,16,17,18,19,20,21,22,23,24,25,26],(.new [])⟩,
⟨(some 42),(some (38,false)),.load none (.t 41),[0,1,2,3,4,5,6,7,8,9,10,11,12,13,14,15,16,17,18,19,20,21,22,23,24,25,26,29],(.new [])⟩,
⟨(some 43),(some (38,false)),.bin .neq (.t 40) (.t 42),[0,1,2,3,4,5,6,7,8,9,10,11,12,13,14,15,16,17,18,19,20,21,22,23,24,25,26,27,28,29,30],(.new [])⟩,
zl 44 (.pick (.t 38) (kB true) (.t 43)) [0,1,2,3,4,5,6,7,8,9,10,11,12,13,14,15,16,17,18,19,20,21,22,23,24,25,26,27,28,29,30,31] [],
sd 45 (.mv (.t 44)) [0,1,2,3,4,5,6,7,8,9,10,11,12,13,14,15,16,17,18,19,20,21,22,23,24,25,26,27,28,29,30,31,32],
⟨(some 46),(some (45,false)),.fieldA 7 (.t 5),[0,1,2,3,4,5,6,7,8,9,10,11,12,13,14,15,16,17,18,19,20,21,22,23,24,25,26,27,28,29,30,31,32,33],(.new [])⟩,
⟨(some 47),(some (45,false)),.load none (.t 46),[0,1,2,3,4,5,6,7,8,9,10,11,12,13,14,15,16,17,18,19,20,21,22,23,24,25,26,27,28,29,30,31,32,33,34],(.new [])⟩,
⟨(some 48),(some (45,false)),.fieldA 7 (.t 6),[0,1,2,3,4,5,6,7,8,9,10,11,12,13,14,15,16,17,18,19,20,21,22,23,24,25,26,27,28,29,30,31,32,33],(.new [])⟩,
⟨(some 49),(some (45,false)),.load none (.t 48),[0,1,2,3,4,5,6,7,8,9,10,11,12,13,14,15,16,17,18,19,20,21,22,23,24,25,26,27,28,29,30,31,32,33,36],(.new [])⟩,
⟨(some 50),(some (45,false)),.beq true (.t 47) (.t 49),[0,1,2,3,4,5,6,7,8,9,10,11,12,13,14,15,16,17,18,19,20,21,22,23,24,25,26,27,28,29,30,31,32,33,34,35,36,37],(.new [])⟩,
zl 51 (.pick (.t 45) (kB true) (.t 50)) [0,1,2,3,4,5,6,7,8,9,10,11,12,13,14,15,16,17,18,19,20,21,22,23,24,25,26,27,28,29,30,31,32,33,34,35,36,37,38] [],
sd 52 (.mv (.t 51)) [0,1,2,3,4,5,6,7,8,9,10,11,12,13,14,15,16,17,18,19,20,21,22,23,24,25,26,27,28,29,30,31,32,33,34,35,36,37,38,39],
⟨(some 53),(some (52,false)),.fieldA 8 (.t 5),[0,1,2,3,4,5,6,7,8,9,10,11,12,13,14,15,16,17,18,19,20,21,22,23,24,25,26,27,28,29,30,31,32,33,34,35,36,37,38,39,40],(.new [])⟩,
⟨(some 54),(some (52,false)),.load none (.t 53),[0,1,2,3,4,5,6,7,8,9,10,11,12,13,14,15,16,17,18,19,20,21,22,23,24,25,26,27,28,29,30,31,32,33,34,35,36,37,38,39,40,41],(.new [])⟩,
⟨(some 55),(some (52,false)),.fieldA 8 (.t 6),[0,1,2,3,4,5,6,7,8,9,10,11,12,13,14,15,16,17,18,19,20,21,22,23,24,25,26,27,28,29,30,31,32,33,34,35,36,37,38,39,40],(.new [])⟩,
⟨(some 56),(some (52,false)),.load none (.t 55),[0,1,2,3,4,5,6,7,8,9,10,11,12,13,14,15,16,17,18,19,20,21,22,23,24,25,26,27,28,29,30,31,32,33,34,35,36,37,38,39,40,43],(.new [])⟩,
⟨(some 57),(some (52,false)),.bin .neq (.t 54) (.t 56),[0,1,2,3,4,5,6,7,8,9,10,11,12,13,14,15,16,17,18,19,20,21,22,23,24,25,26,27,28,29,30,31,32,33,34,35,36,37,38,39,40,41,42,43,44],(.new [])⟩,
zl 58 (.pick (.t 52) (kB true) (.t 57)) [0,1,2,3,4,5,6,7,8,9,10,11,12,13,14,15,16,17,18,19,20,21,22,23,24,25,26,27,28,29,30,31,32,33,34,35,36,37,38,39,40,41,42,43,44,45] []]))
 (.cond (.t 58)
 (.seq (.reg [sq 4 (.mv (kB false))])
 .ret)
 .skip))
 (.seq (.seq (.sem (.reg [sq 59 (.fieldA 9 (.t 5)),
sq 60 (.load none (.t 59)),
sq 61 (.fieldA 9 (.t 6)),
sq 62 (.load none (.t 61)),
sq 63 (.call 45 [(.t 60),(.t 62)]),
sq 64 (.not (.t 63)),
sq 65 (.mv (.t 64)),
zg 66 65 false (.fieldA 10 (.t 5)),
zg 67 65 false (.load none (.t 66)),
zg 68 65 false (.fieldA 10 (.t 6)),
zg 69 65 false (.load none (.t 68)),
zg 70 65 false (.call 46 [(.t 67),(.t 69)]),
zg 71 65 false (.not (.t 70)),
sq 72 (.pick (.t 65) (kB true) (.t 71)),
sq 73 (.mv (.t 72)),
zg 74 73 false (.fieldA 11 (.t 5)),
zg 75 73 false (.load none (.t 74)),
zg 76 73 false (.fieldA 11 (.t 6)),
zg 77 73 false (.load none (.t 76)),
zg 78 73 false (.call 47 [(.t 75),(.t 77)]),
zg 79 73 false (.not (.t 78)),
sq 80 (.pick (.t 73) (kB true) (.t 79))]))
 (.cond (.t 80)
 (.seq (.reg [sq 4 (.mv (kB false))])
 .ret)
 .skip))
 (.seq (.reg [zl 7 (.mv (.f 48)) [] []])
 (.seq (.sem (.reg [sq 81 (.fieldA 12 (.t 5)),
sq 82 (.load none (.t 81)),
sq 83 (.fieldA 12 (.t 6)),
sq 84 (.load none (.t 83)),
sq 85 (.mv (.t 7)),
sq 86 (.call 49 [(.t 82),(.t 84),(.t 85)]),
sq 87 (.mv (.t 86)),
zg 88 87 true (.fieldA 13 (.t 2)),
zg 89 87 true (.load (some 5) (.t 88)),
zg 90 87 true (.fieldA 13 (.t 3)),
zg 91 87 true (.load (some 5) (.t 90)),
zg 92 87 true (.call 40 [(.t 89),(.t 91)]),
sq 93 (.pick (.t 87) (.t 92) (kB false)),
sq 94 (.mv (.t 93)),
zg 95 94 true (.fieldA 18 (.t 2)),
zg 96 94 true (.load (some 5) (.t 95)),
zg 97 94 true (.fieldA 18 (.t 3)),
zg 98 94 true (.load (some 5) (.t 97)),
zg 99 94 true (.call 40 [(.t 96),(.t 98)]),
sq 100 (.pick (.t 94) (.t 99) (kB false)),
sq 4 (.mv (.t 100))]))
 .ret))))))⟩
theorem F16_ok{x0 x1 r}(h:F16 x0 x1=some r):CallD Tryz.prog 16 [.agg [dS x0.Meta.Kind,dS x0.Meta.Namespace,dS x0.Meta.Name,dI x0.Meta.Uid,dI x0.Meta.Version,dI x0.Meta.Generation,dI x0.Meta.Created,dB x0.Meta.Deleting,dI x0.Meta.DeleteAt,dM (x0.Meta.Labels.map eLabel),dM (x0.Meta.Owners.map eOwner),dM (x0.Meta.Finalizers.map eS),dM (x0.Meta.Managers.map eManager),dI x0.Spec.Kind,dI x0.Spec.N,dS x0.Spec.S,dM (x0.Spec.List_.map eTValue),dM (x0.Spec.Fields.map eTField),dI x0.Status.Kind,dI x0.Status.N,dS x0.Status.S,dM (x0.Status.List_.map eTValue),dM (x0.Status.Fields.map eTField)],.agg [dS x1.Meta.Kind,dS x1.Meta.Namespace,dS x1.Meta.Name,dI x1.Meta.Uid,dI x1.Meta.Version,dI x1.Meta.Generation,dI x1.Meta.Created,dB x1.Meta.Deleting,dI x1.Meta.DeleteAt,dM (x1.Meta.Labels.map eLabel),dM (x1.Meta.Owners.map eOwner),dM (x1.Meta.Finalizers.map eS),dM (x1.Meta.Managers.map eManager),dI x1.Spec.Kind,dI x1.Spec.N,dS x1.Spec.S,dM (x1.Spec.List_.map eTValue),dM (x1.Spec.Fields.map eTField),dI x1.Status.Kind,dI x1.Status.N,dS x1.Status.S,dM (x1.Status.List_.map eTValue),dM (x1.Status.Fields.map eTField)]] [] (tupV [.c (dB r)]) []:=by
 rw[F16]at h
 refine zc a16 (by kernel_rfl) rfl (ww ?_)
 refine kD_new (by simp[wrs,allW,hset]) (ww ?_)
 refine kD_new (by simp[wrs,allW,hset]) (ww ?_)
 obtain⟨o1,ho,h⟩:=bi h
 refine cutS (fun s=>s=⟨[(2,.one (.c (.pt 0 0))),(3,.one (.c (.pt 1 0))),(5,.one (.c (.pt 2 0))),(6,.one (.c (.pt 3 0))),(58,.one (.c (dB o1)))],[some (.box [dS x0.Meta.Kind,dS x0.Meta.Namespace,dS x0.Meta.Name,dI x0.Meta.Uid,dI x0.Meta.Version,dI x0.Meta.Generation,dI x0.Meta.Created,dB x0.Meta.Deleting,dI x0.Meta.DeleteAt,dM (x0.Meta.Labels.map eLabel),dM (x0.Meta.Owners.map eOwner),dM (x0.Meta.Finalizers.map eS),dM (x0.Meta.Managers.map eManager),dI x0.Spec.Kind,dI x0.Spec.N,dS x0.Spec.S,dM (x0.Spec.List_.map eTValue),dM (x0.Spec.Fields.map eTField),dI x0.Status.Kind,dI x0.Status.N,dS x0.Status.S,dM (x0.Status.List_.map eTValue),dM (x0.Status.Fields.map eTField)]),some (.box [dS x1.Meta.Kind,dS x1.Meta.Namespace,dS x1.Meta.Name,dI x1.Meta.Uid,dI x1.Meta.Version,dI x1.Meta.Generation,dI x1.Meta.Created,dB x1.Meta.Deleting,dI x1.Meta.DeleteAt,dM (x1.Meta.Labels.map eLabel),dM (x1.Meta.Owners.map eOwner),dM (x1.Meta.Finalizers.map eS),dM (x1.Meta.Managers.map eManager),dI x1.Spec.Kind,dI x1.Spec.N,dS x1.Spec.S,dM (x1.Spec.List_.map eTValue),dM (x1.Spec.Fields.map eTField),dI x1.Status.Kind,dI x1.Status.N,dS x1.Status.S,dM (x1.Status.List_.map eTValue),dM (x1.Status.Fields.map eTField)]),some (.box [dS x0.Meta.Kind,dS x0.Meta.Namespace,dS x0.Meta.Name,dI x0.Meta.Uid,dI x0.Meta.Version,dI x0.Meta.Generation,dI x0.Meta.Created,dB x0.Meta.Deleting,dI x0.Meta.DeleteAt,dM (x0.Meta.Labels.map eLabel),dM (x0.Meta.Owners.map eOwner),dM (x0.Meta.Finalizers.map eS),dM (x0.Meta.Managers.map eManager)]),some (.box [dS x1.Meta.Kind,dS x1.Meta.Namespace,dS x1.Meta.Name,dI x1.Meta.Uid,dI x1.Meta.Version,dI x1.Meta.Generation,dI x1.Meta.Created,dB x1.Meta.Deleting,dI x1.Meta.DeleteAt,dM (x1.Meta.Labels.map eLabel),dM (x1.Meta.Owners.map eOwner),dM (x1.Meta.Finalizers.map eS),dM (x1.Meta.Managers.map eManager)])]⟩) ?_ ?_
 ·have h:=ho
  clear ho
  refine ww ?_
  obtain⟨t2,ht2,h⟩:=bi h
  refine cN [] (F44_ok ht2) trivial (ww ?_)
  obtain⟨t3,ht3,h⟩:=bi h
  refine cN [] (F44_ok ht3) trivial (ww ?_)
  refine guardDh h (fun g4 h=>?_) (fun g4 h=>?_)
  ·refine ww ?_
   cases h
   exact eM [some 0,some 1,some 2,some 3] rfl
  refine ww ?_
  refine guardDh h (fun g5 h=>?_) (fun g5 h=>?_)
  ·refine ww ?_
   cases h
   exact eM [some 0,some 1,some 2,some 3] rfl
  refine ww ?_
  refine guardDh h (fun g6 h=>?_) (fun g6 h=>?_)
  ·refine ww ?_
   cases h
   exact eM [some 0,some 1,some 2,some 3] rfl
  refine ww ?_
  refine guardDh h (fun g7 h=>?_) (fun g7 h=>?_)
  ·refine ww ?_
   cases h
   exact eM [some 0,some 1,some 2,some 3] rfl
  refine ww ?_
  refine guardDh h (fun g8 h=>?_) (fun g8 h=>?_)
  ·refine ww ?_
   cases h
   exact eM [some 0,some 1,some 2,some 3] rfl
  refine ww ?_
  refine guardDBh h (fun g9 h=>?_) (fun g9 h=>?_)
  ·refine ww ?_
   cases h
   exact eM [some 0,some 1,some 2,some 3] rfl
  refine ww ?_
  cases h
  exact eM [some 0,some 1,some 2,some 3] rfl
 rintro _ rfl
 clear ho
 refine ww ?_
 refine condBh h (fun c10 h=>?_) (fun c10 h=>?_)
 ·refine ww ?_
  cases h
  exact eF []
 refine ww ?_
 obtain⟨o11,ho,h⟩:=bi h
 refine cutS (fun s=>s=⟨[(2,.one (.c (.pt 0 0))),(3,.one (.c (.pt 1 0))),(5,.one (.c (.pt 2 0))),(6,.one (.c (.pt 3 0))),(80,.one (.c (dB o11)))],[some (.box [dS x0.Meta.Kind,dS x0.Meta.Namespace,dS x0.Meta.Name,dI x0.Meta.Uid,dI x0.Meta.Version,dI x0.Meta.Generation,dI x0.Meta.Created,dB x0.Meta.Deleting,dI x0.Meta.DeleteAt,dM (x0.Meta.Labels.map eLabel),dM (x0.Meta.Owners.map eOwner),dM (x0.Meta.Finalizers.map eS),dM (x0.Meta.Managers.map eManager),dI x0.Spec.Kind,dI x0.Spec.N,dS x0.Spec.S,dM (x0.Spec.List_.map eTValue),dM (x0.Spec.Fields.map eTField),dI x0.Status.Kind,dI x0.Status.N,dS x0.Status.S,dM (x0.Status.List_.map eTValue),dM (x0.Status.Fields.map eTField)]),some (.box [dS x1.Meta.Kind,dS x1.Meta.Namespace,dS x1.Meta.Name,dI x1.Meta.Uid,dI x1.Meta.Version,dI x1.Meta.Generation,dI x1.Meta.Created,dB x1.Meta.Deleting,dI x1.Meta.DeleteAt,dM (x1.Meta.Labels.map eLabel),dM (x1.Meta.Owners.map eOwner),dM (x1.Meta.Finalizers.map eS),dM (x1.Meta.Managers.map eManager),dI x1.Spec.Kind,dI x1.Spec.N,dS x1.Spec.S,dM (x1.Spec.List_.map eTValue),dM (x1.Spec.Fields.map eTField),dI x1.Status.Kind,dI x1.Status.N,dS x1.Status.S,dM (x1.Status.List_.map eTValue),dM (x1.Status.Fields.map eTField)]),some (.box [dS x0.Meta.Kind,dS x0.Meta.Namespace,dS x0.Meta.Name,dI x0.Meta.Uid,dI x0.Meta.Version,dI x0.Meta.Generation,dI x0.Meta.Created,dB x0.Meta.Deleting,dI x0.Meta.DeleteAt,dM (x0.Meta.Labels.map eLabel),dM (x0.Meta.Owners.map eOwner),dM (x0.Meta.Finalizers.map eS),dM (x0.Meta.Managers.map eManager)]),some (.box [dS x1.Meta.Kind,dS x1.Meta.Namespace,dS x1.Meta.Name,dI x1.Meta.Uid,dI x1.Meta.Version,dI x1.Meta.Generation,dI x1.Meta.Created,dB x1.Meta.Deleting,dI x1.Meta.DeleteAt,dM (x1.Meta.Labels.map eLabel),dM (x1.Meta.Owners.map eOwner),dM (x1.Meta.Finalizers.map eS),dM (x1.Meta.Managers.map eManager)])]⟩) ?_ ?_
 ·have h:=ho
  clear ho
  refine ww ?_
  obtain⟨t12,ht12,h⟩:=bi h
  refine cN [] (F45_ok ht12) trivial (ww ?_)
  refine guardSBh h (fun g13 h=>?_) (fun g13 h=>?_)
  ·refine ww ?_
   cases h
   exact eM [some 0,some 1,some 2,some 3] rfl
  refine ww ?_
  obtain⟨t14,ht14,h⟩:=bi h
  refine cN [] (F46_ok ht14) trivial (ww ?_)
  refine guardSBh h (fun g15 h=>?_) (fun g15 h=>?_)
  ·refine ww ?_
   cases h
   exact eM [some 0,some 1,some 2,some 3] rfl
  refine ww ?_
  obtain⟨t16,ht16,h⟩:=bi h
  refine cN [] (F47_ok ht16) trivial (ww ?_)
  cases h
  exact eM [some 0,some 1,some 2,some 3] rfl
 rintro _ rfl
 clear ho
 refine ww ?_
 refine condBh h (fun c17 h=>?_) (fun c17 h=>?_)
 ·refine ww ?_
  cases h
  exact eF []
 refine ww ?_
 obtain⟨o18,ho,h⟩:=bi h
 refine cutS (fun s=>s=⟨[(4,.one (.c (dB o18)))],[]⟩) ?_ ?_
 ·have h:=ho
  clear ho
  refine ww ?_
  obtain⟨t19,ht19,h⟩:=bi h
  refine cN [] (F49_ok ht19) trivial (ww ?_)
  refine guardSBh h (fun g20 h=>?_) (fun g20 h=>?_)
  ·refine ww ?_
   obtain⟨t21,ht21,h⟩:=bi h
   refine cN [] (F40_ok ht21) trivial (ww ?_)
   refine guardSBh h (fun g22 h=>?_) (fun g22 h=>?_)
   ·refine ww ?_
    obtain⟨t23,ht23,h⟩:=bi h
    refine cN [] (F40_ok ht23) trivial (ww ?_)
    cases h
    exact eM [] rfl
   refine ww ?_
   cases h
   exact eM [] rfl
  refine ww ?_
  cases h
  exact eM [] rfl
 rintro _ rfl
 clear ho
 refine ww ?_
 cases h
 exact eF []
def F25(x0:TStore)(x1:Int):Option ((List Object)×Int):=(((if x1<0 then some true else some (decide (x0.Rev<x1)))).bind fun o1=>(if o1=true then some (([],5))else(if x1<x0.Floor then some (([],10))else(F66 x0 x1).bind fun t5=>(F65 t5).bind fun t6=>some ((t6,0)))))
def a25:AFn:=⟨24,[(.tmp 4),(.tmp 5)],
 (.seq (.reg [sq 2 (.box (.t 0)),
sq 4 (.mv kN),
sq 5 (.mv (kI 0))])
 (.seq (.block 0 (.seq (.sem (.reg [sq 7 (.mv (.t 1)),
sq 8 (.bin .lss (.t 7) (kI 0)),
sq 9 (.mv (.t 8)),
zg 10 9 false (.mv (.t 1)),
zg 11 9 false (.fieldA 0 (.t 2)),
zg 12 9 false (.load none (.t 11)),
zg 13 9 false (.bin .gtr (.t 10) (.t 12)),
sq 14 (.pick (.t 9) (kB true) (.t 13)),
sq 6 (.mv (.t 14))]))
 (.cond (.t 6)
 (.seq (.reg [sq 4 (.mv kN),
sq 5 (.mv (kI 5))])
 .ret)
 (.seq (.reg [sq 16 (.mv (.t 1)),
sq 17 (.fieldA 1 (.t 2)),
sq 18 (.load none (.t 17)),
sq 19 (.bin .lss (.t 16) (.t 18)),
sq 15 (.mv (.t 19))])
 (.cond (.t 15)
 (.seq (.reg [sq 4 (.mv kN),
sq 5 (.mv (kI 10))])
 .ret)
 .skip)))))
 (.seq (.reg [sq 20 (.load (some 6) (.t 2)),
sq 21 (.mv (.t 1)),
sq 22 (.call 66 [(.t 20),(.t 21)]),
sq 23 (.call 65 [(.t 22)]),
sq 4 (.mv (.t 23)),
sq 5 (.mv (kI 0))])
 .ret)))⟩
theorem F25_ok{x0 x1 r}(h:F25 x0 x1=some r):CallD Tryz.prog 25 [.agg [dI x0.Rev,dI x0.Floor,dI x0.NextUid,dM (x0.Base.map eObject),dM (x0.Objects.map eObject),dM (x0.History.map eChange)],.c (dI x1)] [] (tupV [.c (.own 0 0 0 (r.1.length) none),.c (dI r.2)]) [some (.arr 0 23 (r.1.map eObject))]:=by
 rw[F25]at h
 refine zc a25 (by kernel_rfl) rfl (ww ?_)
 obtain⟨o1,ho,h⟩:=bi h
 refine cutS (fun s=>s=⟨[(1,.one (.c (dI x1))),(2,.one (.c (.pt 0 0))),(6,.one (.c (dB o1)))],[some (.box [dI x0.Rev,dI x0.Floor,dI x0.NextUid,dM (x0.Base.map eObject),dM (x0.Objects.map eObject),dM (x0.History.map eChange)])]⟩) ?_ ?_
 ·have h:=ho
  clear ho
  refine ww ?_
  refine guardSh h (fun g2 h=>?_) (fun g2 h=>?_)
  ·refine ww ?_
   cases h
   exact eM [some 0] rfl
  refine ww ?_
  cases h
  exact eM [some 0] rfl
 rintro _ rfl
 clear ho
 refine ww ?_
 refine condBh h (fun c3 h=>?_) (fun c3 h=>?_)
 ·refine ww ?_
  cases h
  exact eF [none]
 refine ww ?_
 refine condSh h (fun c4 h=>?_) (fun c4 h=>?_)
 ·refine ww ?_
  cases h
  exact eF [none]
 refine ww ?_
 obtain⟨t5,ht5,h⟩:=bi h
 refine cN [] (F66_ok ht5) trivial (ww ?_)
 obtain⟨t6,ht6,h⟩:=bi h
 refine callX_gen (as1:=[.c (dM (t5.map eObject))]) [(1,.arr 1 23 [])] [some 0,none] [] (F65_ok ht6) ⟨?_,rfl,?_⟩ ?_ ?_ ?_ ?_ ?_ ?_ ?_ ?_
 ·simp only[ZZ.down,Nat.reduceEqDiff,reduceCtorEq,Nat.reduceAdd,Nat.reduceLeDiff,Nat.reduceLT,Nat.reduceBNe,EE.down]
 ·simp only[ZZ.down,Nat.reduceEqDiff,reduceCtorEq,Nat.reduceAdd,Nat.reduceLeDiff,Nat.reduceLT,Nat.reduceBNe,EE.down]
 ·simp only[ZZ.down,Nat.reduceEqDiff,reduceCtorEq,Nat.reduceAdd,Nat.reduceLeDiff,Nat.reduceLT,Nat.reduceBNe,EE.down]
 ·rfl
 ·rfl
 ·simp[liveAll,A1.live,C.live]
 ·rfl
 ·decide
 ·exact trivial
 refine ww ?_
 cases h
 exact eF [some 2]
def F34(x0:TStore)(x1:Int):Option (Int×(List Object)×(List Object)×(List Change)×Int):=(((if x1<x0.Floor then some true else some (decide (x0.Rev<x1)))).bind fun o1=>(if o1=true then(F39 x0).bind fun t4=>some ((x0.Floor,t4.1,t4.2.1,t4.2.2,5))else(F69 x0 x1).bind fun t5=>(F39 ((⟨x0.Rev,x1,x0.NextUid,t5.1,x0.Objects,t5.2⟩:TStore))).bind fun t6=>some ((x1,t6.1,t6.2.1,t6.2.2,0))))
def a34:AFn:=⟨22,[(.cell 4 (some 6)),(.tmp 5)],
 (.seq (.reg [sq 2 (.box (.t 0)),
sq 4 (.zbox [dI 0,dI 0,dI 0,dN,dN,dN]),
sq 5 (.mv (kI 0))])
 (.seq (.seq (.sem (.reg [sq 6 (.mv (.t 1)),
sq 7 (.fieldA 1 (.t 2)),
sq 8 (.load none (.t 7)),
sq 9 (.bin .lss (.t 6) (.t 8)),
sq 10 (.mv (.t 9)),
zg 11 10 false (.mv (.t 1)),
zg 12 10 false (.fieldA 0 (.t 2)),
zg 13 10 false (.load none (.t 12)),
zg 14 10 false (.bin .gtr (.t 11) (.t 13)),
zl 15 (.pick (.t 10) (kB true) (.t 14)) [] [2,7,2,12]]))
 (.cond (.t 15)
 (.seq (.reg [sq 16 (.load (some 6) (.t 2)),
sq 17 (.call 39 [(.t 16)]),
su (.store 6 (.t 4) (.t 17)),
sq 5 (.mv (kI 5))])
 .ret)
 .skip))
 (.seq (.reg [sq 18 (.load (some 6) (.t 2)),
sq 19 (.mv (.t 1)),
sq 20 (.call 69 [(.t 18),(.t 19)]),
sq 21 (.call 39 [(.t 20)]),
su (.store 6 (.t 4) (.t 21)),
sq 5 (.mv (kI 0))])
 .ret)))⟩
theorem F34_ok{x0 x1 r}(h:F34 x0 x1=some r):CallD Tryz.prog 34 [.agg [dI x0.Rev,dI x0.Floor,dI x0.NextUid,dM (x0.Base.map eObject),dM (x0.Objects.map eObject),dM (x0.History.map eChange)],.c (dI x1)] [] (tupV [.agg [dI x0.Rev,dI r.1,dI x0.NextUid,.own 0 0 0 (r.2.1.length) none,.own 1 0 0 (r.2.2.1.length) none,.own 2 0 0 (r.2.2.2.1.length) none],.c (dI r.2.2.2.2)]) [some (.arr 0 23 (r.2.1.map eObject)),some (.arr 0 23 (r.2.2.1.map eObject)),some (.arr 0 25 (r.2.2.2.1.map eChange))]:=by
 rw[F34]at h
 refine zc a34 (by kernel_rfl) rfl (ww ?_)
 obtain⟨o1,ho,h⟩:=bi h
 refine cutS (fun s=>s=⟨[(1,.one (.c (dI x1))),(2,.one (.c (.pt 0 0))),(4,.one (.c (.pt 1 0))),(15,.one (.c (dB o1)))],[some (.box [dI x0.Rev,dI x0.Floor,dI x0.NextUid,dM (x0.Base.map eObject),dM (x0.Objects.map eObject),dM (x0.History.map eChange)]),some (.box [dI 0,dI 0,dI 0,dN,dN,dN])]⟩) ?_ ?_
 ·have h:=ho
  clear ho
  refine ww ?_
  refine guardSh h (fun g2 h=>?_) (fun g2 h=>?_)
  ·refine ww ?_
   cases h
   exact eM [some 0,some 1] rfl
  refine ww ?_
  cases h
  exact eM [some 0,some 1] rfl
 rintro _ rfl
 clear ho
 refine ww ?_
 refine condBh h (fun c3 h=>?_) (fun c3 h=>?_)
 ·refine ww ?_
  obtain⟨t4,ht4,h⟩:=bi h
  refine cN [] (F39_ok ht4) trivial (ww ?_)
  cases h
  exact eF [some 2,some 3,some 4]
 refine ww ?_
 obtain⟨t5,ht5,h⟩:=bi h
 refine cN [] (F69_ok ht5) trivial (ww ?_)
 obtain⟨t6,ht6,h⟩:=bi h
 refine callX_gen (as1:=[.agg [dI x0.Rev,dI x1,dI x0.NextUid,dM (t5.1.map eObject),dM (x0.Objects.map eObject),dM (t5.2.map eChange)]]) [(2,.arr 1 23 [])] [some 0,some 1,none] [] (F39_ok ht6) ⟨?_,rfl,?_⟩ ?_ ?_ ?_ ?_ ?_ ?_ ?_ ?_
 ·simp only[ZZ.down,Nat.reduceEqDiff,reduceCtorEq,Nat.reduceAdd,Nat.reduceLeDiff,Nat.reduceLT,Nat.reduceBNe,EE.down]
 ·simp only[ZZ.down,Nat.reduceEqDiff,reduceCtorEq,Nat.reduceAdd,Nat.reduceLeDiff,Nat.reduceLT,Nat.reduceBNe,EE.down]
 ·simp only[ZZ.down,Nat.reduceEqDiff,reduceCtorEq,Nat.reduceAdd,Nat.reduceLeDiff,Nat.reduceLT,Nat.reduceBNe,EE.down]
 ·rfl
 ·rfl
 ·simp[liveAll,A1.live,C.live]
 ·rfl
 ·decide
 ·exact trivial
 refine ww ?_
 cases h
 exact eF [some 3,some 4,some 5]
end Go.Proofs.YtbopaemngpbdgaaGreat
