/- Each Go function as a function over typed data, and its walk. -/
import Derived.Test.YtondgcmdhkhkkaaGreatW0
import Derived.Test.YtondgcmdhkhkkaaGreatW1
import Derived.Test.YtondgcmdhkhkkaaGreatW2
import Derived.Test.YtondgcmdhkhkkaaGreatW3
import Derived.Test.YtondgcmdhkhkkaaGreatW4
import Derived.Test.YtondgcmdhkhkkaaGreatW5
import Derived.Test.YtondgcmdhkhkkaaGreatW6
import Derived.Test.YtondgcmdhkhkkaaGreatW7
namespace Go.Proofs.YtondgcmdhkhkkaaGreat
open Go Go.Fw Go.Shelf
set_option maxRecDepth 100000
set_option maxHeartbeats 4000000
set_option linter.unusedSimpArgs false
set_option linter.unusedVariables false
def F114_l1(x0:(List Object))(x1:ByteArray):Nat→Int→Int→Option (Int)
 |0,_,_=>none
 |k+1,o1_0,o1_1=>(if o1_0<o1_1 then(rdI x0 ((IntKind.i64.wrap ((shrV .u64 ((IntKind.u64.wrap ((IntKind.i64.wrap (o1_0+o1_1))))) 1))))).bind fun y3=>(F115 y3 x1).bind fun t4=>(if t4<0 then F114_l1 x0 x1 k ((IntKind.i64.wrap (((IntKind.i64.wrap ((shrV .u64 ((IntKind.u64.wrap ((IntKind.i64.wrap (o1_0+o1_1))))) 1))))+1))) o1_1 else F114_l1 x0 x1 k o1_0 ((IntKind.i64.wrap ((shrV .u64 ((IntKind.u64.wrap ((IntKind.i64.wrap (o1_0+o1_1))))) 1)))))else some o1_0)
def F114(x0:(List Object))(x1:ByteArray):Option (Int×Bool):=((F114_l1 x0 x1 1099511627776 0 ((x0.length:Int))).bind fun o1=>(((if o1<(x0.length:Int)then(rdI x0 o1).bind fun y8=>(F115 y8 x1).bind fun t9=>some (decide (t9=0))else some false)).bind fun o6=>some ((o1,o6))))
def a114:AFn:=⟨49,[(.tmp 6),(.tmp 7)],
 (.seq (.reg [sq 6 (.mv (kI 0)),
sq 7 (.mv (kB false))])
 (.seq (.reg [sq 12 (.mv (.t 0)),
sq 13 (.len (.t 12)),
sq 8 (.mv (.t 13))])
 (.seq (.reg [sq 14 (.mv (.t 8)),
sq 9 (.mv (kI 0)),
sq 10 (.mv (.t 14))])
 (.seq (.sem (.block 0 (.loop (.seq (.seq (.reg [sq 15 (.mv (.t 9)),
sq 16 (.mv (.t 10)),
sq 17 (.bin .lss (.t 15) (.t 16))])
 (.cond (.t 17)
 .skip
 (.exit 0)))
 (.block 1 (.seq (.reg [sq 18 (.mv (.t 9)),
sq 19 (.mv (.t 10)),
sq 20 (.bin .add (.t 18) (.t 19)),
sq 21 (.conv .u64 (.t 20)),
sq 22 (.bin .shr (.t 21) (.k (.c (.d (.v (.int .u64 1)))))),
sq 23 (.conv .i64 (.t 22)),
sq 11 (.mv (.t 23))])
 (.seq (.reg [sq 24 (.mv (.t 2)),
sq 25 (.mv (.t 0)),
sq 26 (.mv (.t 11)),
sq 27 (.indexA 23 (.t 25) (.t 26)),
sq 28 (.load (some 23) (.t 27)),
sq 29 (.mv (.t 1)),
sq 30 (.callv (.t 24) [(.t 28),(.t 29)]),
sq 31 (.bin .lss (.t 30) (kI 0))])
 (.cond (.t 31)
 (.reg [sq 32 (.mv (.t 11)),
sq 33 (.bin .add (.t 32) (kI 1)),
sq 9 (.mv (.t 33))])
 (.reg [sq 34 (.mv (.t 11)),
sq 10 (.mv (.t 34))])))))))))
 (.seq (.sem (.reg [sq 35 (.mv (.t 9)),
sq 36 (.mv (.t 9)),
sq 37 (.mv (.t 8)),
sq 38 (.bin .lss (.t 36) (.t 37)),
sq 39 (.mv (.t 38)),
zg 40 39 true (.mv (.t 2)),
zg 41 39 true (.mv (.t 0)),
zg 42 39 true (.mv (.t 9)),
zg 43 39 true (.indexA 23 (.t 41) (.t 42)),
zg 44 39 true (.load (some 23) (.t 43)),
zg 45 39 true (.mv (.t 1)),
zg 46 39 true (.callv (.t 40) [(.t 44),(.t 45)]),
zg 47 39 true (.bin .eql (.t 46) (kI 0)),
sq 48 (.pick (.t 39) (.t 47) (kB false)),
sq 6 (.mv (.t 35)),
sq 7 (.mv (.t 48))]))
 .ret)))))⟩
theorem a114_ok:afn Tryz.prog 114=some a114.er:=by kernel_rfl
theorem F114_ok{x0 x1 r}(h:F114 x0 x1=some r):CallD Tryz.prog 114 [.c (dM (x0.map eObject)),.c (dS x1),.c (.fn 115 [])] [] (tupV [.c (dI r.1),.c (dB r.2)]) []:=by
 refine callS a114_ok (by simp[a114]) ?_
 rw[F114]at h
 simp only[a114,VW.down,Nat.reduceEqDiff,reduceCtorEq,Nat.reduceAdd,Nat.reduceLeDiff,Nat.reduceLT,Nat.reduceBEq,Nat.reduceSub,EE.down]
 obtain⟨o1,ho,h⟩:=bi h
 refine cutS (fun s=>s=⟨[(0,.one (.c (dM (x0.map eObject)))),(1,.one (.c (dS x1))),(2,.one (.c (.fn 115 []))),(8,.one (.c (dI ((x0.length:Int))))),(9,.one (.c (dI o1)))],[]⟩) ?_ ?_
 ·have h:=ho
  clear ho
  refine ww ?_
  refine bL (fun j s=>∃(o1_0:Int) (o1_1:Int),s=⟨[(0,.one (.c (dM (x0.map eObject)))),(1,.one (.c (dS x1))),(2,.one (.c (.fn 115 []))),(8,.one (.c (dI ((x0.length:Int))))),(9,.one (.c (dI o1_0))),(10,.one (.c (dI o1_1)))],[]⟩∧F114_l1 x0 x1 j o1_0 o1_1=some o1) 1099511627776 [] ⟨0,(x0.length:Int),rfl,h⟩ ?_
  rintro j _ ⟨o1_0,o1_1,rfl,h⟩
  cases j with
  |zero=>cases(show(none:Option _)=some _ from h)
  |succ j=>
   rw[F114_l1]at h
   refine ww ?_
   refine condSh h (fun c2 h=>?_) (fun c2 h=>?_)
   ·refine ww ?_
    refine⟨by decide,?_⟩
    refine ww ?_
    obtain⟨y3,hy3,h⟩:=bi h
    refine t_idxF (enc:=eObject) (xs:=x0) rfl rfl hy3 rfl (ww ?_)
    obtain⟨t4,ht4,h⟩:=bi h
    refine cN [] (F115_ok ht4) trivial (ww ?_)
    refine condSh h (fun c5 h=>?_) (fun c5 h=>?_)
    ·refine ww ?_
     exact eL' j [] ⟨(IntKind.i64.wrap (((IntKind.i64.wrap ((shrV .u64 ((IntKind.u64.wrap ((IntKind.i64.wrap (o1_0+o1_1))))) 1))))+1)),o1_1,rfl,h⟩ (Nat.lt_succ_self _)
    ·refine ww ?_
     exact eL' j [] ⟨o1_0,(IntKind.i64.wrap ((shrV .u64 ((IntKind.u64.wrap ((IntKind.i64.wrap (o1_0+o1_1))))) 1))),rfl,h⟩ (Nat.lt_succ_self _)
   ·refine ww ?_
    cases h
    exact eM [] rfl
 rintro _ rfl
 clear ho
 refine ww ?_
 obtain⟨o6,ho,h⟩:=bi h
 refine cutS (fun s=>s=⟨[(6,.one (.c (dI o1))),(7,.one (.c (dB o6)))],[]⟩) ?_ ?_
 ·have h:=ho
  clear ho
  refine ww ?_
  refine guardSh h (fun g7 h=>?_) (fun g7 h=>?_)
  ·refine ww ?_
   obtain⟨y8,hy8,h⟩:=bi h
   refine t_idxF (enc:=eObject) (xs:=x0) rfl rfl hy8 rfl (ww ?_)
   obtain⟨t9,ht9,h⟩:=bi h
   refine cN [] (F115_ok ht9) trivial (ww ?_)
   cases h
   exact eM [] rfl
  refine ww ?_
  cases h
  exact eM [] rfl
 rintro _ rfl
 clear ho
 refine ww ?_
 cases h
 exact eF []
def F91(x0:(List Object))(x1:ByteArray):Option (Int×Bool):=(F114 x0 x1).bind fun t1=>some ((t1.1,t1.2))
def a91:AFn:=⟨11,[(.tmp 4),(.tmp 5)],
 (.seq (.reg [sq 4 (.mv (kI 0)),
sq 5 (.mv (kB false))])
 (.seq (.reg [sq 6 (.mv (.t 0)),
sq 7 (.mv (.t 1)),
sq 8 (.call 114 [(.t 6),(.t 7),(.f 115)]),
sq 9 (.ext (.t 8) 0),
sq 10 (.ext (.t 8) 1),
sq 4 (.mv (.t 9)),
sq 5 (.mv (.t 10))])
 .ret))⟩
theorem a91_ok:afn Tryz.prog 91=some a91.er:=by kernel_rfl
theorem F91_ok{x0 x1 r}(h:F91 x0 x1=some r):CallD Tryz.prog 91 [.c (dM (x0.map eObject)),.c (dS x1)] [] (tupV [.c (dI r.1),.c (dB r.2)]) []:=by
 refine callS a91_ok (by simp[a91]) ?_
 rw[F91]at h
 simp only[a91,VW.down,Nat.reduceEqDiff,reduceCtorEq,Nat.reduceAdd,Nat.reduceLeDiff,Nat.reduceLT,Nat.reduceBEq,Nat.reduceSub,EE.down]
 obtain⟨t1,ht1,h⟩:=bi h
 refine cN [] (F114_ok ht1) trivial (ww ?_)
 cases h
 exact eF []
def F83_l5:List Manager→Nat→(List Manager)→Option ((List Manager))
 |[],o5_1,o5_0=>some o5_0
 |xo5::xs,o5_1,o5_0=>(rdI o5_0 ((o5_1:Int))).bind fun y7=>(cloneI y7.Fields).bind fun t8=>(rdI o5_0 ((o5_1:Int))).bind fun y9=>F83_l5 xs (o5_1+1) ((o5_0.set ((o5_1:Int)).toNat ((⟨y9.Name,t8⟩:Manager))))
def F83(x0:Object):Option ((List Label)×(List Owner)×(List ByteArray)×(List Manager)×Int×Int×ByteArray×((List TValue))×((List TField))×Int×Int×ByteArray×((List TValue))×((List TField))):=(cloneI x0.Meta.Labels).bind fun t1=>(cloneI x0.Meta.Owners).bind fun t2=>(cloneI x0.Meta.Finalizers).bind fun t3=>(cloneI x0.Meta.Managers).bind fun t4=>(((ck (0≤t4.length∧t4.length≤4294967290)).bind fun u10=>F83_l5 t4 0 t4).bind fun o5=>(F110 x0.Spec).bind fun t11=>(F110 x0.Status).bind fun t12=>some ((t1,t2,t3,o5,(t11).Kind,(t11).N,(t11).S,(t11).List_,(t11).Fields,(t12).Kind,(t12).N,(t12).S,(t12).List_,(t12).Fields)))
def a83:AFn:=⟨72,[(.cell 2 (some 23))],
 (.seq (.reg [sq 1 (.box (.t 0)),
sq 2 (.zbox [dS ⟨#[]⟩,dS ⟨#[]⟩,dS ⟨#[]⟩,dI 0,dI 0,dI 0,dI 0,dB false,dI 0,dN,dN,dN,dN,dI 0,dI 0,dS ⟨#[]⟩,dN,dN,dI 0,dI 0,dS ⟨#[]⟩,dN,dN])])
 (.seq (.reg [sq 5 (.fieldA 0 (.t 1)),
sq 3 (.mv (.t 5))])
 (.seq (.regd [sq 6 (.mv (.t 3)),
sq 7 (.mv (.t 3)),
sq 8 (.mv (.t 3)),
sq 9 (.mv (.t 3)),
sq 10 (.mv (.t 3)),
sd 11 (.fieldA 0 (.t 10)) [4],
sd 12 (.fieldA 9 (.t 11)) [4,5],
sd 13 (.load none (.t 12)) [4,5,6],
zn 14 (.call 71 [(.t 13)]) [4,5,6,7] [4,5,6,7],
sq 15 (.mv (.t 3)),
sd 16 (.fieldA 0 (.t 15)) [9],
sd 17 (.fieldA 10 (.t 16)) [9,10],
sd 18 (.load none (.t 17)) [9,10,11],
zn 19 (.call 72 [(.t 18)]) [4,5,6,7,8,9,10,11,12] [4,5,6,7,8,9,10,11,12],
sq 20 (.mv (.t 3)),
sd 21 (.fieldA 0 (.t 20)) [14],
sd 22 (.fieldA 11 (.t 21)) [14,15],
sd 23 (.load none (.t 22)) [14,15,16],
zn 24 (.call 69 [(.t 23)]) [4,5,6,7,8,9,10,11,12,13,14,15,16,17] [4,5,6,7,8,9,10,11,12,13,14,15,16,17],
sq 25 (.mv (.t 3)),
sd 26 (.fieldA 0 (.t 25)) [19],
sd 27 (.fieldA 12 (.t 26)) [19,20],
sd 28 (.load none (.t 27)) [19,20,21],
zl 29 (.call 73 [(.t 28)]) [4,5,6,7,8,9,10,11,12,13,14,15,16,17,18,19,20,21,22] [],
sd 30 (.fieldA 0 (.t 6)) [0,4,5,6,7,8,9,10,11,12,13,14,15,16,17,18,19,20,21,22,23],
sd 31 (.fieldA 9 (.t 30)) [0,4,5,6,7,8,9,10,11,12,13,14,15,16,17,18,19,20,21,22,23,24],
⟨none,none,.store 1 (.t 31) (.t 14),[0,4,5,6,7,8,9,10,11,12,13,14,15,16,17,18,19,20,21,22,23,24,25],(.lone [])⟩,
sd 32 (.fieldA 0 (.t 7)) [0,1,4,5,6,7,8,9,10,11,12,13,14,15,16,17,18,19,20,21,22,23,24,25,26],
sd 33 (.fieldA 10 (.t 32)) [0,1,4,5,6,7,8,9,10,11,12,13,14,15,16,17,18,19,20,21,22,23,24,25,26,27],
⟨none,none,.store 1 (.t 33) (.t 19),[0,1,4,5,6,7,8,9,10,11,12,13,14,15,16,17,18,19,20,21,22,23,24,25,26,27,28],(.lone [])⟩,
sd 34 (.fieldA 0 (.t 8)) [0,1,2,4,5,6,7,8,9,10,11,12,13,14,15,16,17,18,19,20,21,22,23,24,25,26,27,28,29],
sd 35 (.fieldA 11 (.t 34)) [0,1,2,4,5,6,7,8,9,10,11,12,13,14,15,16,17,18,19,20,21,22,23,24,25,26,27,28,29,30],
⟨none,none,.store 1 (.t 35) (.t 24),[0,1,2,4,5,6,7,8,9,10,11,12,13,14,15,16,17,18,19,20,21,22,23,24,25,26,27,28,29,30,31],(.lone [])⟩,
sd 36 (.fieldA 0 (.t 9)) [0,1,2,3,4,5,6,7,8,9,10,11,12,13,14,15,16,17,18,19,20,21,22,23,24,25,26,27,28,29,30,31,32],
sd 37 (.fieldA 12 (.t 36)) [0,1,2,3,4,5,6,7,8,9,10,11,12,13,14,15,16,17,18,19,20,21,22,23,24,25,26,27,28,29,30,31,32,33],
⟨none,none,.store 1 (.t 37) (.t 29),[0,1,2,3,4,5,6,7,8,9,10,11,12,13,14,15,16,17,18,19,20,21,22,23,24,25,26,27,28,29,30,31,32,33,34],(.lone [])⟩])
 (.seq (.seq (.reg [sq 38 (.mv (.t 3)),
sq 39 (.fieldA 0 (.t 38)),
sq 40 (.fieldA 12 (.t 39)),
sq 41 (.load none (.t 40)),
sq 42 (.len (.t 41)),
sq 43 (.mv (kI 0))])
 (.sem (.block 0 (.loop (.seq (.reg [sq 44 (.bin .lss (.t 43) (.t 42))])
 (.seq (.cond (.t 44)
 .skip
 (.exit 0))
 (.seq (.block 1 (.seq (.reg [sq 45 (.mv (.t 43)),
sq 4 (.mv (.t 45))])
 (.regd [sq 46 (.mv (.t 3)),
sd 47 (.fieldA 0 (.t 46)) [0],
sd 48 (.fieldA 12 (.t 47)) [0,1],
sd 49 (.load none (.t 48)) [0,1,2],
sq 50 (.mv (.t 4)),
sq 51 (.mv (.t 3)),
sd 52 (.fieldA 0 (.t 51)) [5],
sd 53 (.fieldA 12 (.t 52)) [5,6],
sd 54 (.load none (.t 53)) [5,6,7],
sq 55 (.mv (.t 4)),
sd 56 (.indexA 2 (.t 54) (.t 55)) [5,6,7,8,9],
sd 57 (.fieldA 1 (.t 56)) [5,6,7,8,9,10],
sd 58 (.load none (.t 57)) [5,6,7,8,9,10,11],
zl 59 (.call 69 [(.t 58)]) [5,6,7,8,9,10,11,12] [46,47,48],
sd 60 (.indexA 2 (.t 49) (.t 50)) [0,1,2,3,4,5,6,7,8,9,10,11,12,13],
sd 61 (.fieldA 1 (.t 60)) [0,1,2,3,4,5,6,7,8,9,10,11,12,13,14],
⟨none,none,.store 1 (.t 61) (.t 59),[0,1,2,3,4,5,6,7,8,9,10,11,12,13,14,15],(.lone [])⟩])))
 (.reg [sq 62 (.bin .add (.t 43) (kI 1)),
sq 43 (.mv (.t 62))]))))))))
 (.seq (.regd [sq 63 (.fieldA 13 (.t 1)),
sd 64 (.load (some 5) (.t 63)) [0],
zn 65 (.call 110 [(.t 64)]) [0,1] [0,1],
sq 66 (.fieldA 18 (.t 1)),
sd 67 (.load (some 5) (.t 66)) [3],
zl 68 (.call 110 [(.t 67)]) [0,1,2,3,4] [],
sd 69 (.fieldA 13 (.t 1)) [0,1,2,3,4,5],
⟨none,none,.store 5 (.t 69) (.t 65),[0,1,2,3,4,5,6],(.lone [])⟩,
sd 70 (.fieldA 18 (.t 1)) [0,1,2,3,4,5,6,7],
⟨none,none,.store 5 (.t 70) (.t 68),[0,1,2,3,4,5,6,7,8],(.lone [])⟩])
 (.seq (.reg [sq 71 (.load (some 23) (.t 1)),
⟨none,none,.store 23 (.t 2) (.t 71),[],(.lone [1])⟩])
 .ret))))))⟩
theorem a83_ok:afn Tryz.prog 83=some a83.er:=by kernel_rfl
theorem F83_ok{x0 r}(h:F83 x0=some r):CallD Tryz.prog 83 [.agg [dS x0.Meta.Kind,dS x0.Meta.Namespace,dS x0.Meta.Name,dI x0.Meta.Uid,dI x0.Meta.Version,dI x0.Meta.Generation,dI x0.Meta.Created,dB x0.Meta.Deleting,dI x0.Meta.DeleteAt,dM (x0.Meta.Labels.map eLabel),dM (x0.Meta.Owners.map eOwner),dM (x0.Meta.Finalizers.map eS),dM (x0.Meta.Managers.map eManager),dI x0.Spec.Kind,dI x0.Spec.N,dS x0.Spec.S,dM (x0.Spec.List_.map eTValue),dM (x0.Spec.Fields.map eTField),dI x0.Status.Kind,dI x0.Status.N,dS x0.Status.S,dM (x0.Status.List_.map eTValue),dM (x0.Status.Fields.map eTField)]] [] (tupV [.agg [dS x0.Meta.Kind,dS x0.Meta.Namespace,dS x0.Meta.Name,dI x0.Meta.Uid,dI x0.Meta.Version,dI x0.Meta.Generation,dI x0.Meta.Created,dB x0.Meta.Deleting,dI x0.Meta.DeleteAt,.own 0 0 0 (r.1.length) none,.own 1 0 0 (r.2.1.length) none,.own 2 0 0 (r.2.2.1.length) none,.own 3 0 0 (r.2.2.2.1.length) none,dI r.2.2.2.2.1,dI r.2.2.2.2.2.1,dS r.2.2.2.2.2.2.1,dM (r.2.2.2.2.2.2.2.1.map eTValue),dM (r.2.2.2.2.2.2.2.2.1.map eTField),dI r.2.2.2.2.2.2.2.2.2.1,dI r.2.2.2.2.2.2.2.2.2.2.1,dS r.2.2.2.2.2.2.2.2.2.2.2.1,dM (r.2.2.2.2.2.2.2.2.2.2.2.2.1.map eTValue),dM (r.2.2.2.2.2.2.2.2.2.2.2.2.2.map eTField)]]) [some (.arr 0 2 (r.1.map eLabel)),some (.arr 0 5 (r.2.1.map eOwner)),some (.arr 0 1 (r.2.2.1.map eS)),some (.arr 0 2 (r.2.2.2.1.map eManager))]:=by
 refine callS a83_ok (by simp[a83]) ?_
 rw[F83]at h
 simp only[a83,VW.down,Nat.reduceEqDiff,reduceCtorEq,Nat.reduceAdd,Nat.reduceLeDiff,Nat.reduceLT,Nat.reduceBEq,Nat.reduceSub,EE.down]
 obtain⟨t1,ht1,h⟩:=bi h
 refine cN [] (F71_ok ht1) trivial (ww ?_)
 refine kD_new (by simp[wrs,allW,hset]) (ww ?_)
 obtain⟨t2,ht2,h⟩:=bi h
 refine cN [] (F72_ok ht2) trivial (ww ?_)
 refine kD_new (by simp[wrs,allW,hset]) (ww ?_)
 obtain⟨t3,ht3,h⟩:=bi h
 refine cN [] (F69_ok ht3) trivial (ww ?_)
 refine kD_new (by simp[wrs,allW,hset]) (ww ?_)
 obtain⟨t4,ht4,h⟩:=bi h
 refine cN [] (F73_ok ht4) trivial (ww ?_)
 obtain⟨o5,ho,h⟩:=bi h
 refine cutS (fun s=>s=⟨[(1,.one (.c (.pt 0 0))),(2,.one (.c (.pt 5 0)))],[some (.box [dS x0.Meta.Kind,dS x0.Meta.Namespace,dS x0.Meta.Name,dI x0.Meta.Uid,dI x0.Meta.Version,dI x0.Meta.Generation,dI x0.Meta.Created,dB x0.Meta.Deleting,dI x0.Meta.DeleteAt,.own 1 0 0 (t1.length) none,.own 2 0 0 (t2.length) none,.own 3 0 0 (t3.length) none,.own 4 0 0 (o5.length) none,dI x0.Spec.Kind,dI x0.Spec.N,dS x0.Spec.S,dM (x0.Spec.List_.map eTValue),dM (x0.Spec.Fields.map eTField),dI x0.Status.Kind,dI x0.Status.N,dS x0.Status.S,dM (x0.Status.List_.map eTValue),dM (x0.Status.Fields.map eTField)]),some (.arr 0 2 (t1.map eLabel)),some (.arr 0 5 (t2.map eOwner)),some (.arr 0 1 (t3.map eS)),some (.arr 0 2 (o5.map eManager)),some (.box [dS ((⟨#[]⟩:ByteArray)),dS ((⟨#[]⟩:ByteArray)),dS ((⟨#[]⟩:ByteArray)),dI 0,dI 0,dI 0,dI 0,dB false,dI 0,dN,dN,dN,dN,dI 0,dI 0,dS ((⟨#[]⟩:ByteArray)),dN,dN,dI 0,dI 0,dS ((⟨#[]⟩:ByteArray)),dN,dN])]⟩) ?_ ?_
 ·have h:=ho
  clear ho
  obtain⟨_,hk,h⟩:=bi h
  have hk:=ck_some hk
  refine ww ?_
  refine bL (fun j s=>∃(o5_1:Nat) (o5_0:List Manager),(o5_1≤t4.length∧j=t4.length-o5_1)∧s=⟨[(1,.one (.c (.pt 0 0))),(2,.one (.c (.pt 5 0))),(3,.one (.c (.pt 0 0))),(42,.one (.c (dI ((t4.length:Int))))),(43,.one (.c (dI ((o5_1:Int)))))],[some (.box [dS x0.Meta.Kind,dS x0.Meta.Namespace,dS x0.Meta.Name,dI x0.Meta.Uid,dI x0.Meta.Version,dI x0.Meta.Generation,dI x0.Meta.Created,dB x0.Meta.Deleting,dI x0.Meta.DeleteAt,.own 1 0 0 (t1.length) none,.own 2 0 0 (t2.length) none,.own 3 0 0 (t3.length) none,.own 4 0 0 (o5_0.length) none,dI x0.Spec.Kind,dI x0.Spec.N,dS x0.Spec.S,dM (x0.Spec.List_.map eTValue),dM (x0.Spec.Fields.map eTField),dI x0.Status.Kind,dI x0.Status.N,dS x0.Status.S,dM (x0.Status.List_.map eTValue),dM (x0.Status.Fields.map eTField)]),some (.arr 0 2 (t1.map eLabel)),some (.arr 0 5 (t2.map eOwner)),some (.arr 0 1 (t3.map eS)),some (.arr 0 2 (o5_0.map eManager)),some (.box [dS ((⟨#[]⟩:ByteArray)),dS ((⟨#[]⟩:ByteArray)),dS ((⟨#[]⟩:ByteArray)),dI 0,dI 0,dI 0,dI 0,dB false,dI 0,dN,dN,dN,dN,dI 0,dI 0,dS ((⟨#[]⟩:ByteArray)),dN,dN,dI 0,dI 0,dS ((⟨#[]⟩:ByteArray)),dN,dN])]⟩∧F83_l5 (t4.drop o5_1) o5_1 o5_0=some o5) (t4.length-0) [some 0,some 2,some 3,some 4,some 5,some 1] ⟨0,t4,⟨hk.1,rfl⟩,rfl,h⟩ ?_
  rintro _ _ ⟨o5_1,o5_0,⟨hi,rfl⟩,rfl,h⟩
  refine ww ?_
  refine condS (fun c6=>?_) (fun c6=>?_)
  ·obtain⟨xo5,hxo5,hd⟩:=countY (show(o5_1:Int)<(t4.length:Int)from c6)
   rw[hd,F83_l5]at h
   refine ww ?_
   obtain⟨y7,hy7,h⟩:=bi h
   refine t_idxO (enc:=eManager) (xs:=o5_0) rfl rfl rfl (by first|rfl|simp only[List.length_set]|exact(clrL_len (slI_len (by assumption))).symm) hy7 (ww ?_)
   refine LdRow.rd (rdI_some hy7).2.1 (ww ?_)
   obtain⟨t8,ht8,h⟩:=bi h
   refine cN [] (F69_ok ht8) trivial (ww ?_)
   obtain⟨y9,hy9,h⟩:=bi h
   refine t_idxO (enc:=eManager) (xs:=o5_0) rfl rfl rfl (by first|rfl|simp only[List.length_set]|exact(clrL_len (slI_len (by assumption))).symm) hy9 (ww ?_)
   refine StRow.rd (y':=(⟨y9.Name,t8⟩:Manager)) (rdI_some hy9).2.1 (by simp[EE.down]) (by first|rfl|(simp only[bor_full'];rfl)) (ww ?_)
   rw[wrapN (by omega)]
   exact eL' (t4.length-(o5_1+1)) [some 0,some 1,some 2,some 3,some 4,some 5] ⟨o5_1+1,(o5_0.set ((o5_1:Int)).toNat ((⟨y9.Name,t8⟩:Manager))),⟨by omega,rfl⟩,rfl,h⟩ (by omega)
  rw[countN (show¬((o5_1:Int)<(t4.length:Int))from c6),F83_l5]at h
  refine ww ?_
  cases h
  exact eM [some 0,some 1,some 2,some 3,some 4,some 5] rfl
 rintro _ rfl
 clear ho
 refine ww ?_
 obtain⟨t11,ht11,h⟩:=bi h
 refine cN [] (F110_ok ht11) trivial (ww ?_)
 obtain⟨t12,ht12,h⟩:=bi h
 refine cN [] (F110_ok ht12) trivial (ww ?_)
 cases h
 exact eF [some 1,some 2,some 3,some 4]
def F53_l1:List Object→Nat→(List Object)→Option ((List Object))
 |[],o1_1,o1_0=>some o1_0
 |xo1::xs,o1_1,o1_0=>(F83 xo1).bind fun t3=>(apI o1_0 ([(⟨(⟨xo1.Meta.Kind,xo1.Meta.Namespace,xo1.Meta.Name,xo1.Meta.Uid,xo1.Meta.Version,xo1.Meta.Generation,xo1.Meta.Created,xo1.Meta.Deleting,xo1.Meta.DeleteAt,t3.1,t3.2.1,t3.2.2.1,t3.2.2.2.1⟩:Meta),(⟨t3.2.2.2.2.1,t3.2.2.2.2.2.1,t3.2.2.2.2.2.2.1,t3.2.2.2.2.2.2.2.1,t3.2.2.2.2.2.2.2.2.1⟩:TValue),(⟨t3.2.2.2.2.2.2.2.2.2.1,t3.2.2.2.2.2.2.2.2.2.2.1,t3.2.2.2.2.2.2.2.2.2.2.2.1,t3.2.2.2.2.2.2.2.2.2.2.2.2.1,t3.2.2.2.2.2.2.2.2.2.2.2.2.2⟩:TValue)⟩:Object)])).bind fun a4=>F53_l1 xs (o1_1+1) a4
def F53(x0:(List Object)):Option ((List Object)):=(((ck (0≤x0.length∧x0.length≤4294967290)).bind fun u5=>F53_l1 x0 0 ([])).bind fun o1=>some o1)
def a53:AFn:=⟨19,[(.tmp 2)],
 (.seq (.reg [sq 2 (.mv kN)])
 (.seq (.reg [sq 3 (.mv kN)])
 (.seq (.seq (.reg [sq 6 (.mv (.t 0)),
sq 7 (.len (.t 6)),
sq 8 (.mv (kI 0))])
 (.sem (.block 0 (.loop (.seq (.reg [sq 9 (.bin .lss (.t 8) (.t 7))])
 (.seq (.cond (.t 9)
 .skip
 (.exit 0))
 (.seq (.block 1 (.seq (.reg [sq 10 (.indexA 23 (.t 6) (.t 8)),
sq 11 (.load (some 23) (.t 10)),
sq 5 (.zbox [dS ⟨#[]⟩,dS ⟨#[]⟩,dS ⟨#[]⟩,dI 0,dI 0,dI 0,dI 0,dB false,dI 0,dN,dN,dN,dN,dI 0,dI 0,dS ⟨#[]⟩,dN,dN,dI 0,dI 0,dS ⟨#[]⟩,dN,dN]),
su (.store 23 (.t 5) (.t 11))])
 (.reg [sq 12 (.mv (.t 3)),
sq 13 (.load (some 23) (.t 5)),
sq 14 (.call 83 [(.t 13)]),
sq 15 (.bslice 23 [(.t 14)]),
sq 16 (.app 23 352 (.t 12) (.t 15)),
sq 3 (.mv (.t 16))])))
 (.reg [sq 17 (.bin .add (.t 8) (kI 1)),
sq 8 (.mv (.t 17))]))))))))
 (.seq (.reg [sq 18 (.mv (.t 3)),
sq 2 (.mv (.t 18))])
 .ret))))⟩
theorem a53_ok:afn Tryz.prog 53=some a53.er:=by kernel_rfl
theorem F53_ok{x0 r}(h:F53 x0=some r):CallD Tryz.prog 53 [.c (dM (x0.map eObject))] [] (tupV [.c (.own 0 0 0 (r.length) none)]) [some (.arr 0 23 (r.map eObject))]:=by
 refine callS a53_ok (by simp[a53]) ?_
 rw[F53]at h
 simp only[a53,VW.down,Nat.reduceEqDiff,reduceCtorEq,Nat.reduceAdd,Nat.reduceLeDiff,Nat.reduceLT,Nat.reduceBEq,Nat.reduceSub,EE.down]
 obtain⟨o1,ho,h⟩:=bi h
 refine cutS (fun s=>s=⟨[(3,.one (.c (.own 0 0 0 (o1.length) none)))],[some (.arr 0 23 (o1.map eObject))]⟩) ?_ ?_
 ·have h:=ho
  clear ho
  obtain⟨_,hk,h⟩:=bi h
  have hk:=ck_some hk
  refine ww ?_
  refine bL (fun j s=>∃(o1_1:Nat) (o1_0:List Object),(o1_1≤x0.length∧j=x0.length-o1_1)∧s=⟨[(3,.one (.c (.own 0 0 0 (o1_0.length) none))),(6,.one (.c (dM (x0.map eObject)))),(7,.one (.c (dI ((x0.length:Int))))),(8,.one (.c (dI ((o1_1:Int)))))],[some (.arr 0 23 (o1_0.map eObject))]⟩∧F53_l1 (x0.drop o1_1) o1_1 o1_0=some o1) (x0.length-0) [none] ⟨0,[],⟨hk.1,rfl⟩,rfl,h⟩ ?_
  rintro _ _ ⟨o1_1,o1_0,⟨hi,rfl⟩,rfl,h⟩
  refine ww ?_
  refine condS (fun c2=>?_) (fun c2=>?_)
  ·obtain⟨xo1,hxo1,hd⟩:=countY (show(o1_1:Int)<(x0.length:Int)from c2)
   rw[hd,F53_l1]at h
   refine ww ?_
   refine t_idxF (enc:=eObject) (xs:=x0) rfl rfl hxo1 rfl (ww ?_)
   obtain⟨t3,ht3,h⟩:=bi h
   refine cN [] (F83_ok ht3) trivial (ww ?_)
   refine t_bslice (enc:=eObject) (ys:=[(⟨(⟨xo1.Meta.Kind,xo1.Meta.Namespace,xo1.Meta.Name,xo1.Meta.Uid,xo1.Meta.Version,xo1.Meta.Generation,xo1.Meta.Created,xo1.Meta.Deleting,xo1.Meta.DeleteAt,t3.1,t3.2.1,t3.2.2.1,t3.2.2.2.1⟩:Meta),(⟨t3.2.2.2.2.1,t3.2.2.2.2.2.1,t3.2.2.2.2.2.2.1,t3.2.2.2.2.2.2.2.1,t3.2.2.2.2.2.2.2.2.1⟩:TValue),(⟨t3.2.2.2.2.2.2.2.2.2.1,t3.2.2.2.2.2.2.2.2.2.2.1,t3.2.2.2.2.2.2.2.2.2.2.2.1,t3.2.2.2.2.2.2.2.2.2.2.2.2.1,t3.2.2.2.2.2.2.2.2.2.2.2.2.2⟩:TValue)⟩:Object)]) rfl rfl (by simp[A1.cells]) (by first|rfl|(simp only[List.drop_zero,take_mapL];rfl)|(simp only[lit,List.map_cons,List.map_nil,List.drop_zero,take_mapL,EE.down];done)|(simp only[lit,List.map_cons,List.map_nil,List.drop_zero,take_mapL,EE.down];rfl)) (ww ?_)
   obtain⟨a4,ha4,h⟩:=bi h
   refine t_app (enc:=eObject) (xs:=o1_0) rfl rfl (by first|rfl|simp only[List.length_set]|exact(clrL_len (slI_len (by assumption))).symm) rfl (rows_full (enc:=eObject) (by first|rfl|simp only[List.length_set]|exact(clrL_len (slI_len (by assumption))).symm) rfl) ha4 (ww ?_)
   rw[wrapN (by omega)]
   exact eL' (x0.length-(o1_1+1)) [some 0] ⟨o1_1+1,a4,⟨by omega,rfl⟩,rfl,h⟩ (by omega)
  rw[countN (show¬((o1_1:Int)<(x0.length:Int))from c2),F53_l1]at h
  refine ww ?_
  cases h
  exact eM [some 0] rfl
 rintro _ rfl
 clear ho
 refine ww ?_
 cases h
 exact eF [some 0]
def F60_l4:List Change→Nat→(List Change)→Option ((List Change))
 |[],o4_1,o4_0=>some o4_0
 |xo4::xs,o4_1,o4_0=>(rdI o4_0 ((o4_1:Int))).bind fun y6=>(F83 y6.Object).bind fun t7=>(rdI o4_0 ((o4_1:Int))).bind fun y8=>F60_l4 xs (o4_1+1) ((o4_0.set ((o4_1:Int)).toNat ((⟨y8.Rev,y8.Kind,(⟨(⟨y6.Object.Meta.Kind,y6.Object.Meta.Namespace,y6.Object.Meta.Name,y6.Object.Meta.Uid,y6.Object.Meta.Version,y6.Object.Meta.Generation,y6.Object.Meta.Created,y6.Object.Meta.Deleting,y6.Object.Meta.DeleteAt,t7.1,t7.2.1,t7.2.2.1,t7.2.2.2.1⟩:Meta),(⟨t7.2.2.2.2.1,t7.2.2.2.2.2.1,t7.2.2.2.2.2.2.1,t7.2.2.2.2.2.2.2.1,t7.2.2.2.2.2.2.2.2.1⟩:TValue),(⟨t7.2.2.2.2.2.2.2.2.2.1,t7.2.2.2.2.2.2.2.2.2.2.1,t7.2.2.2.2.2.2.2.2.2.2.2.1,t7.2.2.2.2.2.2.2.2.2.2.2.2.1,t7.2.2.2.2.2.2.2.2.2.2.2.2.2⟩:TValue)⟩:Object)⟩:Change))))
def F60(x0:TStore):Option ((List Object)×(List Object)×(List Change)):=(F53 x0.Base).bind fun t1=>(F53 x0.Objects).bind fun t2=>(cloneI x0.History).bind fun t3=>(((ck (0≤t3.length∧t3.length≤4294967290)).bind fun u9=>F60_l4 t3 0 t3).bind fun o4=>some ((t1,t2,o4)))
def a60:AFn:=⟨36,[(.cell 2 (some 6))],
 (.seq (.reg [sq 1 (.box (.t 0)),
sq 2 (.zbox [dI 0,dI 0,dI 0,dN,dN,dN])])
 (.seq (.regd [sq 4 (.fieldA 3 (.t 1)),
sd 5 (.load none (.t 4)) [0],
zn 6 (.call 53 [(.t 5)]) [0,1] [0,1],
sq 7 (.fieldA 4 (.t 1)),
sd 8 (.load none (.t 7)) [3],
sd 9 (.call 53 [(.t 8)]) [0,1,2,3,4],
sd 10 (.fieldA 3 (.t 1)) [0,1,2,3,4],
⟨none,none,.store 1 (.t 10) (.t 6),[0,1,2,3,4,5,6],(.lone [])⟩,
sd 11 (.fieldA 4 (.t 1)) [0,1,2,3,4,5,6,7],
⟨none,none,.store 1 (.t 11) (.t 9),[0,1,2,3,4,5,6,7,8],(.lone [])⟩])
 (.seq (.reg [sq 12 (.fieldA 5 (.t 1)),
sq 13 (.load none (.t 12)),
sq 14 (.call 90 [(.t 13)]),
sq 15 (.fieldA 5 (.t 1)),
su (.store 1 (.t 15) (.t 14))])
 (.seq (.seq (.reg [sq 16 (.fieldA 5 (.t 1)),
sq 17 (.load none (.t 16)),
sq 18 (.len (.t 17)),
sq 19 (.mv (kI 0))])
 (.sem (.block 0 (.loop (.seq (.reg [sq 20 (.bin .lss (.t 19) (.t 18))])
 (.seq (.cond (.t 20)
 .skip
 (.exit 0))
 (.seq (.block 1 (.seq (.reg [sq 21 (.mv (.t 19)),
sq 3 (.mv (.t 21))])
 (.regd [sq 22 (.fieldA 5 (.t 1)),
sd 23 (.load none (.t 22)) [0],
sq 24 (.mv (.t 3)),
sq 25 (.fieldA 5 (.t 1)),
sd 26 (.load none (.t 25)) [3],
sq 27 (.mv (.t 3)),
sd 28 (.indexA 25 (.t 26) (.t 27)) [3,4,5],
sd 29 (.fieldA 2 (.t 28)) [3,4,5,6],
sd 30 (.load (some 23) (.t 29)) [3,4,5,6,7],
zl 31 (.call 83 [(.t 30)]) [3,4,5,6,7,8] [1,22],
sd 32 (.indexA 25 (.t 23) (.t 24)) [0,1,2,3,4,5,6,7,8,9],
sd 33 (.fieldA 2 (.t 32)) [0,1,2,3,4,5,6,7,8,9,10],
⟨none,none,.store 23 (.t 33) (.t 31),[0,1,2,3,4,5,6,7,8,9,10,11],(.lone [])⟩])))
 (.reg [sq 34 (.bin .add (.t 19) (kI 1)),
sq 19 (.mv (.t 34))]))))))))
 (.seq (.reg [sq 35 (.load (some 6) (.t 1)),
⟨none,none,.store 6 (.t 2) (.t 35),[],(.lone [1])⟩])
 .ret)))))⟩
theorem a60_ok:afn Tryz.prog 60=some a60.er:=by kernel_rfl
theorem F60_ok{x0 r}(h:F60 x0=some r):CallD Tryz.prog 60 [.agg [dI x0.Rev,dI x0.Floor,dI x0.NextUid,dM (x0.Base.map eObject),dM (x0.Objects.map eObject),dM (x0.History.map eChange)]] [] (tupV [.agg [dI x0.Rev,dI x0.Floor,dI x0.NextUid,.own 0 0 0 (r.1.length) none,.own 1 0 0 (r.2.1.length) none,.own 2 0 0 (r.2.2.length) none]]) [some (.arr 0 23 (r.1.map eObject)),some (.arr 0 23 (r.2.1.map eObject)),some (.arr 0 25 (r.2.2.map eChange))]:=by
 refine callS a60_ok (by simp[a60]) ?_
 rw[F60]at h
 simp only[a60,VW.down,Nat.reduceEqDiff,reduceCtorEq,Nat.reduceAdd,Nat.reduceLeDiff,Nat.reduceLT,Nat.reduceBEq,Nat.reduceSub,EE.down]
 obtain⟨t1,ht1,h⟩:=bi h
 refine cN [] (F53_ok ht1) trivial (ww ?_)
 refine kD_new (by simp[wrs,allW,hset]) (ww ?_)
 obtain⟨t2,ht2,h⟩:=bi h
 refine cN [] (F53_ok ht2) trivial (ww ?_)
 refine kD_new (by simp[wrs,allW,hset]) (ww ?_)
 obtain⟨t3,ht3,h⟩:=bi h
 refine cN [] (F90_ok ht3) trivial (ww ?_)
 obtain⟨o4,ho,h⟩:=bi h
 refine cutS (fun s=>s=⟨[(1,.one (.c (.pt 0 0))),(2,.one (.c (.pt 4 0)))],[some (.box [dI x0.Rev,dI x0.Floor,dI x0.NextUid,.own 1 0 0 (t1.length) none,.own 2 0 0 (t2.length) none,.own 3 0 0 (o4.length) none]),some (.arr 0 23 (t1.map eObject)),some (.arr 0 23 (t2.map eObject)),some (.arr 0 25 (o4.map eChange)),some (.box [dI 0,dI 0,dI 0,dN,dN,dN])]⟩) ?_ ?_
 ·have h:=ho
  clear ho
  obtain⟨_,hk,h⟩:=bi h
  have hk:=ck_some hk
  refine ww ?_
  refine bL (fun j s=>∃(o4_1:Nat) (o4_0:List Change),(o4_1≤t3.length∧j=t3.length-o4_1)∧s=⟨[(1,.one (.c (.pt 0 0))),(2,.one (.c (.pt 4 0))),(18,.one (.c (dI ((t3.length:Int))))),(19,.one (.c (dI ((o4_1:Int)))))],[some (.box [dI x0.Rev,dI x0.Floor,dI x0.NextUid,.own 1 0 0 (t1.length) none,.own 2 0 0 (t2.length) none,.own 3 0 0 (o4_0.length) none]),some (.arr 0 23 (t1.map eObject)),some (.arr 0 23 (t2.map eObject)),some (.arr 0 25 (o4_0.map eChange)),some (.box [dI 0,dI 0,dI 0,dN,dN,dN])]⟩∧F60_l4 (t3.drop o4_1) o4_1 o4_0=some o4) (t3.length-0) [some 0,some 2,some 3,some 4,some 1] ⟨0,t3,⟨hk.1,rfl⟩,rfl,h⟩ ?_
  rintro _ _ ⟨o4_1,o4_0,⟨hi,rfl⟩,rfl,h⟩
  refine ww ?_
  refine condS (fun c5=>?_) (fun c5=>?_)
  ·obtain⟨xo4,hxo4,hd⟩:=countY (show(o4_1:Int)<(t3.length:Int)from c5)
   rw[hd,F60_l4]at h
   refine ww ?_
   obtain⟨y6,hy6,h⟩:=bi h
   refine t_idxO (enc:=eChange) (xs:=o4_0) rfl rfl rfl (by first|rfl|simp only[List.length_set]|exact(clrL_len (slI_len (by assumption))).symm) hy6 (ww ?_)
   refine LdRow.rd (rdI_some hy6).2.1 (ww ?_)
   obtain⟨t7,ht7,h⟩:=bi h
   refine cN [] (F83_ok ht7) trivial (ww ?_)
   obtain⟨y8,hy8,h⟩:=bi h
   refine t_idxO (enc:=eChange) (xs:=o4_0) rfl rfl rfl (by first|rfl|simp only[List.length_set]|exact(clrL_len (slI_len (by assumption))).symm) hy8 (ww ?_)
   refine StRow.rd (y':=(⟨y8.Rev,y8.Kind,(⟨(⟨y6.Object.Meta.Kind,y6.Object.Meta.Namespace,y6.Object.Meta.Name,y6.Object.Meta.Uid,y6.Object.Meta.Version,y6.Object.Meta.Generation,y6.Object.Meta.Created,y6.Object.Meta.Deleting,y6.Object.Meta.DeleteAt,t7.1,t7.2.1,t7.2.2.1,t7.2.2.2.1⟩:Meta),(⟨t7.2.2.2.2.1,t7.2.2.2.2.2.1,t7.2.2.2.2.2.2.1,t7.2.2.2.2.2.2.2.1,t7.2.2.2.2.2.2.2.2.1⟩:TValue),(⟨t7.2.2.2.2.2.2.2.2.2.1,t7.2.2.2.2.2.2.2.2.2.2.1,t7.2.2.2.2.2.2.2.2.2.2.2.1,t7.2.2.2.2.2.2.2.2.2.2.2.2.1,t7.2.2.2.2.2.2.2.2.2.2.2.2.2⟩:TValue)⟩:Object)⟩:Change)) (rdI_some hy8).2.1 (by simp[EE.down]) (by first|rfl|(simp only[bor_full'];rfl)) (ww ?_)
   rw[wrapN (by omega)]
   exact eL' (t3.length-(o4_1+1)) [some 0,some 1,some 2,some 3,some 4] ⟨o4_1+1,(o4_0.set ((o4_1:Int)).toNat ((⟨y8.Rev,y8.Kind,(⟨(⟨y6.Object.Meta.Kind,y6.Object.Meta.Namespace,y6.Object.Meta.Name,y6.Object.Meta.Uid,y6.Object.Meta.Version,y6.Object.Meta.Generation,y6.Object.Meta.Created,y6.Object.Meta.Deleting,y6.Object.Meta.DeleteAt,t7.1,t7.2.1,t7.2.2.1,t7.2.2.2.1⟩:Meta),(⟨t7.2.2.2.2.1,t7.2.2.2.2.2.1,t7.2.2.2.2.2.2.1,t7.2.2.2.2.2.2.2.1,t7.2.2.2.2.2.2.2.2.1⟩:TValue),(⟨t7.2.2.2.2.2.2.2.2.2.1,t7.2.2.2.2.2.2.2.2.2.2.1,t7.2.2.2.2.2.2.2.2.2.2.2.1,t7.2.2.2.2.2.2.2.2.2.2.2.2.1,t7.2.2.2.2.2.2.2.2.2.2.2.2.2⟩:TValue)⟩:Object)⟩:Change))),⟨by omega,rfl⟩,rfl,h⟩ (by omega)
  rw[countN (show¬((o4_1:Int)<(t3.length:Int))from c5),F60_l4]at h
  refine ww ?_
  cases h
  exact eM [some 0,some 1,some 2,some 3,some 4] rfl
 rintro _ rfl
 clear ho
 refine ww ?_
 cases h
 exact eF [some 1,some 2,some 3]
def F85(x0:(List Object))(x1:Change):Option ((List Object)×Bool):=(F24 x1.Object.Meta).bind fun t1=>(F91 x0 t1).bind fun t2=>(((if x1.Kind=2 then some (nb t2.2)else some false)).bind fun o3=>(if o3=true then some ((x0,false))else(if x1.Kind=2 then(delI x0 t2.1 ((IntKind.i64.wrap (t2.1+1)))).bind fun t7=>some ((t7,true))else(if t2.2=true then(rdI x0 t2.1).bind fun y9=>some (((x0.set t2.1.toNat x1.Object),true))else(insI x0 t2.1 x1.Object).bind fun t10=>some ((t10,true))))))
def a85:AFn:=⟨49,[(.tmp 4),(.tmp 5)],
 (.seq (.reg [sq 3 (.box (.t 1)),
sq 4 (.mv kN),
sq 5 (.mv (kB false))])
 (.seq (.reg [sq 9 (.mv (.t 0)),
sq 10 (.fieldA 2 (.t 3)),
sq 11 (.fieldA 0 (.t 10)),
sq 12 (.load (some 13) (.t 11)),
sq 13 (.call 24 [(.t 12)]),
sq 14 (.call 91 [(.t 9),(.t 13)]),
sq 8 (.mv (.t 14)),
sq 15 (.ext (.t 8) 0),
sq 16 (.ext (.t 8) 1),
sq 6 (.mv (.t 15)),
sq 7 (.mv (.t 16))])
 (.seq (.block 0 (.seq (.sem (.reg [sq 24 (.fieldA 1 (.t 3)),
sq 25 (.load none (.t 24)),
sq 26 (.bin .eql (.t 25) (kI 2)),
sq 27 (.mv (.t 26)),
zg 28 27 true (.mv (.t 7)),
zg 29 27 true (.not (.t 28)),
sq 30 (.pick (.t 27) (.t 29) (kB false)),
sq 23 (.mv (.t 30))]))
 (.cond (.t 23)
 (.seq (.reg [sq 31 (.mv (.t 0)),
sq 4 (.mv (.t 31)),
sq 5 (.mv (kB false))])
 .ret)
 (.seq (.reg [sq 33 (.fieldA 1 (.t 3)),
sq 34 (.load none (.t 33)),
sq 35 (.bin .eql (.t 34) (kI 2)),
sq 32 (.mv (.t 35))])
 (.cond (.t 32)
 (.seq (.reg [sq 36 (.mv (.t 0)),
sq 37 (.mv (.t 6)),
sq 38 (.mv (.t 6)),
sq 39 (.bin .add (.t 38) (kI 1)),
sq 40 (.call 111 [(.t 36),(.t 37),(.t 39)]),
sq 4 (.mv (.t 40)),
sq 5 (.mv (kB true))])
 .ret)
 (.seq (.reg [sq 42 (.mv (.t 7)),
sq 41 (.mv (.t 42))])
 (.cond (.t 41)
 (.reg [sq 43 (.mv (.t 0)),
sq 44 (.mv (.t 6)),
sq 45 (.fieldA 2 (.t 3)),
sq 46 (.load (some 23) (.t 45)),
sq 47 (.indexA 23 (.t 43) (.t 44)),
⟨none,none,.store 23 (.t 47) (.t 46),[],(.lone [3,45,43])⟩])
 (.reg [sq 17 (.mv (.t 0)),
sq 18 (.mv (.t 6)),
sq 19 (.fieldA 2 (.t 3)),
sq 20 (.load (some 23) (.t 19)),
sq 21 (.bslice 23 [(.t 20)]),
sq 22 (.call 112 [(.t 17),(.t 18),(.t 21)]),
sq 0 (.mv (.t 22))]))))))))
 (.seq (.reg [sq 48 (.mv (.t 0)),
sq 4 (.mv (.t 48)),
sq 5 (.mv (kB true))])
 .ret))))⟩
theorem a85_ok:afn Tryz.prog 85=some a85.er:=by kernel_rfl
theorem F85_ok{x0 x1 r}{e0:Nat}(h:F85 x0 x1=some r):CallD Tryz.prog 85 [.c (.own 0 e0 0 (x0.length) none),.agg [dI x1.Rev,dI x1.Kind,dS x1.Object.Meta.Kind,dS x1.Object.Meta.Namespace,dS x1.Object.Meta.Name,dI x1.Object.Meta.Uid,dI x1.Object.Meta.Version,dI x1.Object.Meta.Generation,dI x1.Object.Meta.Created,dB x1.Object.Meta.Deleting,dI x1.Object.Meta.DeleteAt,dM (x1.Object.Meta.Labels.map eLabel),dM (x1.Object.Meta.Owners.map eOwner),dM (x1.Object.Meta.Finalizers.map eS),dM (x1.Object.Meta.Managers.map eManager),dI x1.Object.Spec.Kind,dI x1.Object.Spec.N,dS x1.Object.Spec.S,dM (x1.Object.Spec.List_.map eTValue),dM (x1.Object.Spec.Fields.map eTField),dI x1.Object.Status.Kind,dI x1.Object.Status.N,dS x1.Object.Status.S,dM (x1.Object.Status.List_.map eTValue),dM (x1.Object.Status.Fields.map eTField)]] [some (.arr e0 23 (x0.map eObject))] (tupV [.c (.own 0 (e0+2) 0 (r.1.length) none),.c (dB r.2)]) [some (.arr (e0+2) 23 (r.1.map eObject))]:=by
 refine callS a85_ok (by simp[a85]) ?_
 rw[F85]at h
 simp only[a85,VW.down,Nat.reduceEqDiff,reduceCtorEq,Nat.reduceAdd,Nat.reduceLeDiff,Nat.reduceLT,Nat.reduceBEq,Nat.reduceSub,EE.down]
 obtain⟨t1,ht1,h⟩:=bi h
 refine cN [] (F24_ok ht1) trivial (ww ?_)
 obtain⟨t2,ht2,h⟩:=bi h
 refine callX_bor (F91_ok ht2) (by simp only[borAs,bors,hp,List.getElem?_cons_zero,List.getElem?_cons_succ,Option.join_some,List.drop_zero,bor_full',true_and,Nat.zero_add,List.length_map,Nat.le_refl,nrm,List.length_cons,List.length_nil,Nat.reduceAdd,Nat.reduceLeDiff,List.take_succ_cons,List.take_zero,List.take_nil,List.map_cons,List.map_nil,List.length_set,EE.down]) rfl ?_
 refine ww ?_
 obtain⟨o3,ho,h⟩:=bi h
 refine cutS (fun s=>s=⟨[(0,.one (.c (.own 0 e0 0 (x0.length) none))),(3,.one (.c (.pt 1 0))),(6,.one (.c (dI t2.1))),(7,.one (.c (dB t2.2))),(23,.one (.c (dB o3)))],[some (.arr e0 23 (x0.map eObject)),some (.box [dI x1.Rev,dI x1.Kind,dS x1.Object.Meta.Kind,dS x1.Object.Meta.Namespace,dS x1.Object.Meta.Name,dI x1.Object.Meta.Uid,dI x1.Object.Meta.Version,dI x1.Object.Meta.Generation,dI x1.Object.Meta.Created,dB x1.Object.Meta.Deleting,dI x1.Object.Meta.DeleteAt,dM (x1.Object.Meta.Labels.map eLabel),dM (x1.Object.Meta.Owners.map eOwner),dM (x1.Object.Meta.Finalizers.map eS),dM (x1.Object.Meta.Managers.map eManager),dI x1.Object.Spec.Kind,dI x1.Object.Spec.N,dS x1.Object.Spec.S,dM (x1.Object.Spec.List_.map eTValue),dM (x1.Object.Spec.Fields.map eTField),dI x1.Object.Status.Kind,dI x1.Object.Status.N,dS x1.Object.Status.S,dM (x1.Object.Status.List_.map eTValue),dM (x1.Object.Status.Fields.map eTField)])]⟩) ?_ ?_
 ·have h:=ho
  clear ho
  refine ww ?_
  refine guardSh h (fun g4 h=>?_) (fun g4 h=>?_)
  ·refine ww ?_
   cases h
   exact eM [some 0,some 1] rfl
  refine ww ?_
  cases h
  exact eM [some 0,some 1] rfl
 rintro _ rfl
 clear ho
 refine ww ?_
 refine condBh h (fun c5 h=>?_) (fun c5 h=>?_)
 ·refine ww ?_
  cases h
  exact eF [some 0]
 refine ww ?_
 refine condSh h (fun c6 h=>?_) (fun c6 h=>?_)
 ·refine ww ?_
  obtain⟨t7,ht7,h⟩:=bi h
  refine cN [0] (F111_ok (e0:=e0) ht7) ⟨⟨rfl,trivial⟩,trivial⟩ ?_
  refine ww ?_
  cases h
  exact eF [some 0]
 refine ww ?_
 refine condBh h (fun c8 h=>?_) (fun c8 h=>?_)
 ·refine ww ?_
  obtain⟨y9,hy9,h⟩:=bi h
  refine t_idxO (enc:=eObject) (xs:=x0) rfl rfl rfl (by first|rfl|simp only[List.length_set]|exact(clrL_len (slI_len (by assumption))).symm) hy9 (ww ?_)
  refine StRow.rd (y':=x1.Object) (rdI_some hy9).2.1 (by simp[EE.down]) (by first|rfl|(simp only[bor_full'];rfl)) (ww ?_)
  cases h
  exact eF [some 0]
 refine ww ?_
 refine t_bslice (enc:=eObject) (ys:=[x1.Object]) rfl rfl (by simp[A1.cells]) (by first|rfl|(simp only[List.drop_zero,take_mapL];rfl)|(simp only[lit,List.map_cons,List.map_nil,List.drop_zero,take_mapL,EE.down];done)|(simp only[lit,List.map_cons,List.map_nil,List.drop_zero,take_mapL,EE.down];rfl)) (ww ?_)
 obtain⟨t10,ht10,h⟩:=bi h
 refine cN [0,2] (F112_ok (e0:=e0) (e1:=0) ht10) ⟨⟨rfl,trivial⟩,⟨⟨rfl,trivial⟩,trivial⟩⟩ ?_
 refine ww ?_
 cases h
 exact eF [some 0]
def F94(x0:TStore)(x1:ByteArray):Option (ByteArray×ByteArray×ByteArray×Int×Int×Int×Int×Bool×Int×(List Label)×(List Owner)×(List ByteArray)×(List Manager)×Int×Int×ByteArray×((List TValue))×((List TField))×Int×Int×ByteArray×((List TValue))×((List TField))×Bool):=(F91 x0.Objects x1).bind fun t1=>(if t1.2=true then(rdI x0.Objects t1.1).bind fun y3=>(F83 y3).bind fun t4=>some ((y3.Meta.Kind,y3.Meta.Namespace,y3.Meta.Name,y3.Meta.Uid,y3.Meta.Version,y3.Meta.Generation,y3.Meta.Created,y3.Meta.Deleting,y3.Meta.DeleteAt,t4.1,t4.2.1,t4.2.2.1,t4.2.2.2.1,t4.2.2.2.2.1,t4.2.2.2.2.2.1,t4.2.2.2.2.2.2.1,t4.2.2.2.2.2.2.2.1,t4.2.2.2.2.2.2.2.2.1,t4.2.2.2.2.2.2.2.2.2.1,t4.2.2.2.2.2.2.2.2.2.2.1,t4.2.2.2.2.2.2.2.2.2.2.2.1,t4.2.2.2.2.2.2.2.2.2.2.2.2.1,t4.2.2.2.2.2.2.2.2.2.2.2.2.2,true))else some (((⟨#[]⟩:ByteArray),(⟨#[]⟩:ByteArray),(⟨#[]⟩:ByteArray),0,0,0,0,false,0,[],[],[],[],0,0,(⟨#[]⟩:ByteArray),[],[],0,0,(⟨#[]⟩:ByteArray),[],[],false)))
def a94:AFn:=⟨23,[(.cell 4 (some 23)),(.tmp 5)],
 (.seq (.reg [sq 2 (.box (.t 0)),
sq 4 (.zbox [dS ⟨#[]⟩,dS ⟨#[]⟩,dS ⟨#[]⟩,dI 0,dI 0,dI 0,dI 0,dB false,dI 0,dN,dN,dN,dN,dI 0,dI 0,dS ⟨#[]⟩,dN,dN,dI 0,dI 0,dS ⟨#[]⟩,dN,dN]),
sq 5 (.mv (kB false))])
 (.seq (.seq (.reg [sq 9 (.fieldA 4 (.t 2)),
sq 10 (.load none (.t 9)),
sq 11 (.mv (.t 1)),
sq 12 (.call 91 [(.t 10),(.t 11)]),
sq 8 (.mv (.t 12)),
sq 13 (.ext (.t 8) 0),
sq 14 (.ext (.t 8) 1),
sq 6 (.mv (.t 13)),
sq 7 (.mv (.t 14))])
 (.seq (.reg [sq 15 (.mv (.t 7))])
 (.cond (.t 15)
 (.seq (.reg [sq 16 (.fieldA 4 (.t 2)),
sq 17 (.load none (.t 16)),
sq 18 (.mv (.t 6)),
sq 19 (.indexA 23 (.t 17) (.t 18)),
sq 20 (.load (some 23) (.t 19)),
sq 21 (.call 83 [(.t 20)]),
su (.store 23 (.t 4) (.t 21)),
sq 5 (.mv (kB true))])
 .ret)
 .skip)))
 (.seq (.reg [sq 22 (.build [dS ⟨#[]⟩,dS ⟨#[]⟩,dS ⟨#[]⟩,dI 0,dI 0,dI 0,dI 0,dB false,dI 0,dN,dN,dN,dN,dI 0,dI 0,dS ⟨#[]⟩,dN,dN,dI 0,dI 0,dS ⟨#[]⟩,dN,dN] []),
su (.store 23 (.t 4) (.t 22)),
sq 5 (.mv (kB false))])
 .ret)))⟩
theorem a94_ok:afn Tryz.prog 94=some a94.er:=by kernel_rfl
theorem F94_ok{x0 x1 r}(h:F94 x0 x1=some r):CallD Tryz.prog 94 [.agg [dI x0.Rev,dI x0.Floor,dI x0.NextUid,dM (x0.Base.map eObject),dM (x0.Objects.map eObject),dM (x0.History.map eChange)],.c (dS x1)] [] (tupV [.agg [dS r.1,dS r.2.1,dS r.2.2.1,dI r.2.2.2.1,dI r.2.2.2.2.1,dI r.2.2.2.2.2.1,dI r.2.2.2.2.2.2.1,dB r.2.2.2.2.2.2.2.1,dI r.2.2.2.2.2.2.2.2.1,.own 0 0 0 (r.2.2.2.2.2.2.2.2.2.1.length) none,.own 1 0 0 (r.2.2.2.2.2.2.2.2.2.2.1.length) none,.own 2 0 0 (r.2.2.2.2.2.2.2.2.2.2.2.1.length) none,.own 3 0 0 (r.2.2.2.2.2.2.2.2.2.2.2.2.1.length) none,dI r.2.2.2.2.2.2.2.2.2.2.2.2.2.1,dI r.2.2.2.2.2.2.2.2.2.2.2.2.2.2.1,dS r.2.2.2.2.2.2.2.2.2.2.2.2.2.2.2.1,dM (r.2.2.2.2.2.2.2.2.2.2.2.2.2.2.2.2.1.map eTValue),dM (r.2.2.2.2.2.2.2.2.2.2.2.2.2.2.2.2.2.1.map eTField),dI r.2.2.2.2.2.2.2.2.2.2.2.2.2.2.2.2.2.2.1,dI r.2.2.2.2.2.2.2.2.2.2.2.2.2.2.2.2.2.2.2.1,dS r.2.2.2.2.2.2.2.2.2.2.2.2.2.2.2.2.2.2.2.2.1,dM (r.2.2.2.2.2.2.2.2.2.2.2.2.2.2.2.2.2.2.2.2.2.1.map eTValue),dM (r.2.2.2.2.2.2.2.2.2.2.2.2.2.2.2.2.2.2.2.2.2.2.1.map eTField)],.c (dB r.2.2.2.2.2.2.2.2.2.2.2.2.2.2.2.2.2.2.2.2.2.2.2)]) [some (.arr 0 2 (r.2.2.2.2.2.2.2.2.2.1.map eLabel)),some (.arr 0 5 (r.2.2.2.2.2.2.2.2.2.2.1.map eOwner)),some (.arr 0 1 (r.2.2.2.2.2.2.2.2.2.2.2.1.map eS)),some (.arr 0 2 (r.2.2.2.2.2.2.2.2.2.2.2.2.1.map eManager))]:=by
 refine callS a94_ok (by simp[a94]) ?_
 rw[F94]at h
 simp only[a94,VW.down,Nat.reduceEqDiff,reduceCtorEq,Nat.reduceAdd,Nat.reduceLeDiff,Nat.reduceLT,Nat.reduceBEq,Nat.reduceSub,EE.down]
 obtain⟨t1,ht1,h⟩:=bi h
 refine cN [] (F91_ok ht1) trivial (ww ?_)
 refine condBh h (fun c2 h=>?_) (fun c2 h=>?_)
 ·refine ww ?_
  obtain⟨y3,hy3,h⟩:=bi h
  refine t_idxF (enc:=eObject) (xs:=x0.Objects) rfl rfl hy3 rfl (ww ?_)
  obtain⟨t4,ht4,h⟩:=bi h
  refine cN [] (F83_ok ht4) trivial (ww ?_)
  cases h
  exact eF [some 2,some 3,some 4,some 5]
 refine ww ?_
 cases h
 exact eF [none,none,none,none]
end Go.Proofs.YtondgcmdhkhkkaaGreat
