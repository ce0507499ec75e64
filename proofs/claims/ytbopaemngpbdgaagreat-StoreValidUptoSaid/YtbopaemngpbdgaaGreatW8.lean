/- Each Go function as a function over typed data, and its walk. -/
import Derived.Test.YtbopaemngpbdgaaGreatW0
import Derived.Test.YtbopaemngpbdgaaGreatW1
import Derived.Test.YtbopaemngpbdgaaGreatW2
import Derived.Test.YtbopaemngpbdgaaGreatW3
import Derived.Test.YtbopaemngpbdgaaGreatW4
import Derived.Test.YtbopaemngpbdgaaGreatW5
import Derived.Test.YtbopaemngpbdgaaGreatW6
namespace Go.Proofs.YtbopaemngpbdgaaGreat
open Go Go.Fw Go.Shelf
set_option maxRecDepth 100000
set_option maxHeartbeats 4000000
set_option linter.unusedSimpArgs false
set_option linter.unusedVariables false
def F71(x0:Object)(x1:ByteArray):Option (Int):=(F37 x0.Meta).bind fun t1=>(F72 t1 x1).bind fun t2=>some t2
def a71:AFn:=⟨10,[(.tmp 4)],
 (.seq (.reg [sq 2 (.box (.t 0)),
sq 4 (.mv (kI 0))])
 (.seq (.reg [sq 5 (.fieldA 0 (.t 2)),
sq 6 (.load (some 13) (.t 5)),
sq 7 (.call 37 [(.t 6)]),
sq 8 (.mv (.t 1)),
sq 9 (.call 72 [(.t 7),(.t 8)]),
sq 4 (.mv (.t 9))])
 .ret))⟩
theorem F71_ok{x0 x1 r}(h:F71 x0 x1=some r):CallD Tryz.prog 71 [.agg [dS x0.Meta.Kind,dS x0.Meta.Namespace,dS x0.Meta.Name,dI x0.Meta.Uid,dI x0.Meta.Version,dI x0.Meta.Generation,dI x0.Meta.Created,dB x0.Meta.Deleting,dI x0.Meta.DeleteAt,dM (x0.Meta.Labels.map eLabel),dM (x0.Meta.Owners.map eOwner),dM (x0.Meta.Finalizers.map eS),dM (x0.Meta.Managers.map eManager),dI x0.Spec.Kind,dI x0.Spec.N,dS x0.Spec.S,dM (x0.Spec.List_.map eTValue),dM (x0.Spec.Fields.map eTField),dI x0.Status.Kind,dI x0.Status.N,dS x0.Status.S,dM (x0.Status.List_.map eTValue),dM (x0.Status.Fields.map eTField)],.c (dS x1)] [] (tupV [.c (dI r)]) []:=by
 rw[F71]at h
 refine zc a71 (by kernel_rfl) rfl (ww ?_)
 obtain⟨t1,ht1,h⟩:=bi h
 refine cN [] (F37_ok ht1) trivial (ww ?_)
 obtain⟨t2,ht2,h⟩:=bi h
 refine cN [] (F72_ok ht2) trivial (ww ?_)
 cases h
 exact eF []
def F70_l1(x0:(List Object))(x1:ByteArray):Nat→Int→Int→Option (Int)
 |0,_,_=>none
 |k+1,o1_0,o1_1=>(if o1_0<o1_1 then(rdI x0 ((IntKind.i64.wrap ((shrV .u64 ((IntKind.u64.wrap ((IntKind.i64.wrap (o1_0+o1_1))))) 1))))).bind fun y3=>(F71 y3 x1).bind fun t4=>(if t4<0 then F70_l1 x0 x1 k ((IntKind.i64.wrap (((IntKind.i64.wrap ((shrV .u64 ((IntKind.u64.wrap ((IntKind.i64.wrap (o1_0+o1_1))))) 1))))+1))) o1_1 else F70_l1 x0 x1 k o1_0 ((IntKind.i64.wrap ((shrV .u64 ((IntKind.u64.wrap ((IntKind.i64.wrap (o1_0+o1_1))))) 1)))))else some o1_0)
def F70(x0:(List Object))(x1:ByteArray):Option (Int×Bool):=((F70_l1 x0 x1 1099511627776 0 ((x0.length:Int))).bind fun o1=>(((if o1<(x0.length:Int)then(rdI x0 o1).bind fun y8=>(F71 y8 x1).bind fun t9=>some (decide (t9=0))else some false)).bind fun o6=>some ((o1,o6))))
def a70:AFn:=⟨49,[(.tmp 6),(.tmp 7)],
 (.seq (.reg [sq 6 (.mv (kI 0)),
sq 7 (.mv (kB false))])
 (.seq (.reg [sq 12 (.mv (.t 0)),
sq 13 (.len (.t 12)),
sq 8 (.mv (.t 13))])
 (.seq (.reg [sq 14 (.mv (.t 8)),
sq 9 (.mv (kI 0)),
sq 10 (.mv (.t 14))])
 (.seq (.sem (.block 0 (.loop (.seq (.seq (.reg [sq 15 (.mv (.t 9)),
sq 16 (.mv (.t 10)),
sq 17 (.bin .lss (.t 15) (.t 16))])
 (.cond (.t 17)
 .skip
 (.exit 0)))
 (.block 1 (.seq (.reg [sq 18 (.mv (.t 9)),
sq 19 (.mv (.t 10)),
sq 20 (.bin .add (.t 18) (.t 19)),
sq 21 (.conv .u64 (.t 20)),
sq 22 (.bin .shr (.t 21) (.k (.c (.d (.v (.int .u64 1)))))),
sq 23 (.conv .i64 (.t 22)),
sq 11 (.mv (.t 23))])
 (.seq (.reg [sq 24 (.mv (.t 2)),
sq 25 (.mv (.t 0)),
sq 26 (.mv (.t 11)),
sq 27 (.indexA 23 (.t 25) (.t 26)),
sq 28 (.load (some 23) (.t 27)),
sq 29 (.mv (.t 1)),
sq 30 (.callv (.t 24) [(.t 28),(.t 29)]),
sq 31 (.bin .lss (.t 30) (kI 0))])
 (.cond (.t 31)
 (.reg [sq 32 (.mv (.t 11)),
sq 33 (.bin .add (.t 32) (kI 1)),
sq 9 (.mv (.t 33))])
 (.reg [sq 34 (.mv (.t 11)),
sq 10 (.mv (.t 34))])))))))))
 (.seq (.sem (.reg [sq 35 (.mv (.t 9)),
sq 36 (.mv (.t 9)),
sq 37 (.mv (.t 8)),
sq 38 (.bin .lss (.t 36) (.t 37)),
sq 39 (.mv (.t 38)),
zg 40 39 true (.mv (.t 2)),
zg 41 39 true (.mv (.t 0)),
zg 42 39 true (.mv (.t 9)),
zg 43 39 true (.indexA 23 (.t 41) (.t 42)),
zg 44 39 true (.load (some 23) (.t 43)),
zg 45 39 true (.mv (.t 1)),
zg 46 39 true (.callv (.t 40) [(.t 44),(.t 45)]),
zg 47 39 true (.bin .eql (.t 46) (kI 0)),
sq 48 (.pick (.t 39) (.t 47) (kB false)),
sq 6 (.mv (.t 35)),
sq 7 (.mv (.t 48))]))
 .ret)))))⟩
theorem F70_ok{x0 x1 r}(h:F70 x0 x1=some r):CallD Tryz.prog 70 [.c (dM (x0.map eObject)),.c (dS x1),.c (.fn 71 [])] [] (tupV [.c (dI r.1),.c (dB r.2)]) []:=by
 rw[F70]at h
 refine zc a70 (by kernel_rfl) rfl (ww ?_)
 obtain⟨o1,ho,h⟩:=bi h
 refine cutS (fun s=>s=⟨[(0,.one (.c (dM (x0.map eObject)))),(1,.one (.c (dS x1))),(2,.one (.c (.fn 71 []))),(8,.one (.c (dI ((x0.length:Int))))),(9,.one (.c (dI o1)))],[]⟩) ?_ ?_
 ·have h:=ho
  clear ho
  refine ww ?_
  refine bL (fun j s=>∃(o1_0:Int) (o1_1:Int),s=⟨[(0,.one (.c (dM (x0.map eObject)))),(1,.one (.c (dS x1))),(2,.one (.c (.fn 71 []))),(8,.one (.c (dI ((x0.length:Int))))),(9,.one (.c (dI o1_0))),(10,.one (.c (dI o1_1)))],[]⟩∧F70_l1 x0 x1 j o1_0 o1_1=some o1) 1099511627776 [] ⟨0,(x0.length:Int),rfl,h⟩ ?_
  rintro j _ ⟨o1_0,o1_1,rfl,h⟩
  cases j with
  |zero=>cases(show(none:Option _)=some _ from h)
  |succ j=>
   rw[F70_l1]at h
   refine ww ?_
   refine condSh h (fun c2 h=>?_) (fun c2 h=>?_)
   ·refine ww ?_
    refine⟨by decide,?_⟩
    refine ww ?_
    obtain⟨y3,hy3,h⟩:=bi h
    refine t_idxF (enc:=eObject) (xs:=x0) rfl rfl hy3 rfl (ww ?_)
    obtain⟨t4,ht4,h⟩:=bi h
    refine cN [] (F71_ok ht4) trivial (ww ?_)
    refine condSh h (fun c5 h=>?_) (fun c5 h=>?_)
    ·refine ww ?_
     exact eL' j [] ⟨(IntKind.i64.wrap (((IntKind.i64.wrap ((shrV .u64 ((IntKind.u64.wrap ((IntKind.i64.wrap (o1_0+o1_1))))) 1))))+1)),o1_1,rfl,h⟩ (Nat.lt_succ_self _)
    ·refine ww ?_
     exact eL' j [] ⟨o1_0,(IntKind.i64.wrap ((shrV .u64 ((IntKind.u64.wrap ((IntKind.i64.wrap (o1_0+o1_1))))) 1))),rfl,h⟩ (Nat.lt_succ_self _)
   ·refine ww ?_
    cases h
    exact eM [] rfl
 rintro _ rfl
 clear ho
 refine ww ?_
 obtain⟨o6,ho,h⟩:=bi h
 refine cutS (fun s=>s=⟨[(6,.one (.c (dI o1))),(7,.one (.c (dB o6)))],[]⟩) ?_ ?_
 ·have h:=ho
  clear ho
  refine ww ?_
  refine guardSh h (fun g7 h=>?_) (fun g7 h=>?_)
  ·refine ww ?_
   obtain⟨y8,hy8,h⟩:=bi h
   refine t_idxF (enc:=eObject) (xs:=x0) rfl rfl hy8 rfl (ww ?_)
   obtain⟨t9,ht9,h⟩:=bi h
   refine cN [] (F71_ok ht9) trivial (ww ?_)
   cases h
   exact eM [] rfl
  refine ww ?_
  cases h
  exact eM [] rfl
 rintro _ rfl
 clear ho
 refine ww ?_
 cases h
 exact eF []
def F77(x0:TValue):Option (TValue):=(F102 ([x0])).bind fun t1=>(rdI t1.1 0).bind fun y2=>some y2
def a77:AFn:=⟨9,[(.cell 2 (some 5))],
 (.seq (.reg [sq 1 (.box (.t 0)),
sq 2 (.zbox [dI 0,dI 0,dS ⟨#[]⟩,dN,dN])])
 (.seq (.reg [sq 3 (.load (some 5) (.t 1)),
sq 4 (.bslice 5 [(.t 3)]),
sq 5 (.call 102 [(.t 4)]),
sq 6 (.field 3 none (.t 5)),
sq 7 (.indexA 5 (.t 6) (kI 0)),
sq 8 (.load (some 5) (.t 7)),
su (.store 5 (.t 2) (.t 8))])
 .ret))⟩
theorem F77_ok{x0 r}(h:F77 x0=some r):CallD Tryz.prog 77 [.agg [dI x0.Kind,dI x0.N,dS x0.S,dM (x0.List_.map eTValue),dM (x0.Fields.map eTField)]] [] (tupV [.agg [dI ((r).Kind),dI ((r).N),dS ((r).S),dM (((r).List_).map eTValue),dM (((r).Fields).map eTField)]]) []:=by
 rw[F77]at h
 refine zc a77 (by kernel_rfl) rfl (ww ?_)
 refine t_bslice (enc:=eTValue) (ys:=[x0]) rfl rfl (by simp[A1.cells]) (by first|rfl|(simp only[List.drop_zero,take_mapL];rfl)|(simp only[lit,List.map_cons,List.map_nil,List.drop_zero,take_mapL,EE.down];done)|(simp only[lit,List.map_cons,List.map_nil,List.drop_zero,take_mapL,EE.down];rfl)) (ww ?_)
 obtain⟨t1,ht1,h⟩:=bi h
 refine callX_gen (as1:=[.c (dM (([x0]).map eTValue))]) [(2,.arr 1 5 [])] [some 0,some 1,none] [] (F102_ok ht1) ⟨?_,rfl,?_⟩ ?_ ?_ ?_ ?_ ?_ ?_ ?_ ?_
 ·simp only[ZZ.down,Nat.reduceEqDiff,reduceCtorEq,Nat.reduceAdd,Nat.reduceLeDiff,Nat.reduceLT,Nat.reduceBNe,EE.down]
 ·simp only[ZZ.down,Nat.reduceEqDiff,reduceCtorEq,Nat.reduceAdd,Nat.reduceLeDiff,Nat.reduceLT,Nat.reduceBNe,EE.down]
 ·simp only[ZZ.down,Nat.reduceEqDiff,reduceCtorEq,Nat.reduceAdd,Nat.reduceLeDiff,Nat.reduceLT,Nat.reduceBNe,EE.down]
 ·rfl
 ·rfl
 ·simp[liveAll,A1.live,C.live]
 ·rfl
 ·decide
 ·exact trivial
 refine ww ?_
 obtain⟨y2,hy2,h⟩:=bi h
 refine t_idxO (enc:=eTValue) (xs:=t1.1) rfl rfl rfl (by first|rfl|simp only[List.length_set]|exact(clrL_len (slI_len (by assumption))).symm) hy2 (ww ?_)
 refine LdRow.rd (rdI_some hy2).2.1 (ww ?_)
 cases h
 exact eF []
def F36_l5:List Manager→Nat→(List Manager)→Option ((List Manager))
 |[],o5_1,o5_0=>some o5_0
 |xo5::xs,o5_1,o5_0=>(rdI o5_0 ((o5_1:Int))).bind fun y7=>(cloneI y7.Fields).bind fun t8=>(rdI o5_0 ((o5_1:Int))).bind fun y9=>F36_l5 xs (o5_1+1) ((o5_0.set ((o5_1:Int)).toNat ((⟨y9.Name,t8⟩:Manager))))
def F36(x0:Object):Option ((List Label)×(List Owner)×(List ByteArray)×(List Manager)×Int×Int×ByteArray×((List TValue))×((List TField))×Int×Int×ByteArray×((List TValue))×((List TField))):=(cloneI x0.Meta.Labels).bind fun t1=>(cloneI x0.Meta.Owners).bind fun t2=>(cloneI x0.Meta.Finalizers).bind fun t3=>(cloneI x0.Meta.Managers).bind fun t4=>(((ck (0≤t4.length∧t4.length≤4294967290)).bind fun u10=>F36_l5 t4 0 t4).bind fun o5=>(F77 x0.Spec).bind fun t11=>(F77 x0.Status).bind fun t12=>some ((t1,t2,t3,o5,(t11).Kind,(t11).N,(t11).S,(t11).List_,(t11).Fields,(t12).Kind,(t12).N,(t12).S,(t12).List_,(t12).Fields)))
def a36:AFn:=⟨72,[(.cell 2 (some 23))],
 (.seq (.reg [sq 1 (.box (.t 0)),
sq 2 (.zbox [dS ⟨#[]⟩,dS ⟨#[]⟩,dS ⟨#[]⟩,dI 0,dI 0,dI 0,dI 0,dB false,dI 0,dN,dN,dN,dN,dI 0,dI 0,dS ⟨#[]⟩,dN,dN,dI 0,dI 0,dS ⟨#[]⟩,dN,dN])])
 (.seq (.reg [sq 5 (.fieldA 0 (.t 1)),
sq 3 (.mv (.t 5))])
 (.seq (.regd [sq 6 (.mv (.t 3)),
sq 7 (.mv (.t 3)),
sq 8 (.mv (.t 3)),
sq 9 (.mv (.t 3)),
sq 10 (.mv (.t 3)),
sd 11 (.fieldA 0 (.t 10)) [4],
sd 12 (.fieldA 9 (.t 11)) [4,5],
sd 13 (.load none (.t 12)) [4,5,6],
zn 14 (.call 73 [(.t 13)]) [4,5,6,7] [4,5,6,7],
sq 15 (.mv (.t 3)),
sd 16 (.fieldA 0 (.t 15)) [9],
sd 17 (.fieldA 10 (.t 16)) [9,10],
sd 18 (.load none (.t 17)) [9,10,11],
zn 19 (.call 74 [(.t 18)]) [4,5,6,7,8,9,10,11,12] [4,5,6,7,8,9,10,11,12],
sq 20 (.mv (.t 3)),
sd 21 (.fieldA 0 (.t 20)) [14],
sd 22 (.fieldA 11 (.t 21)) [14,15],
sd 23 (.load none (.t 22)) [14,15,16],
zn 24 (.call 75 [(.t 23)]) [4,5,6,7,8,9,10,11,12,13,14,15,16,17] [4,5,6,7,8,9,10,11,12,13,14,15,16,17],
sq 25 (.mv (.t 3)),
sd 26 (.fieldA 0 (.t 25)) [19],
sd 27 (.fieldA 12 (.t 26)) [19,20],
sd 28 (.load none (.t 27)) [19,20,21],
zl 29 (.call 76 [(.t 28)]) [4,5,6,7,8,9,10,11,12,13,14,15,16,17,18,19,20,21,22] [],
sd 30 (.fieldA 0 (.t 6)) [0,4,5,6,7,8,9,10,11,12,13,14,15,16,17,18,19,20,21,22,23],
sd 31 (.fieldA 9 (.t 30)) [0,4,5,6,7,8,9,10,11,12,13,14,15,16,17,18,19,20,21,22,23,24],
⟨none,none,.store 1 (.t 31) (.t 14),[0,4,5,6,7,8,9,10,11,12,13,14,15,16,17,18,19,20,21,22,23,24,25],(.lone [])⟩,
sd 32 (.fieldA 0 (.t 7)) [0,1,4,5,6,7,8,9,10,11,12,13,14,15,16,17,18,19,20,21,22,23,24,25,26],
sd 33 (.fieldA 10 (.t 32)) [0,1,4,5,6,7,8,9,10,11,12,13,14,15,16,17,18,19,20,21,22,23,24,25,26,27],
⟨none,none,.store 1 (.t 33) (.t 19),[0,1,4,5,6,7,8,9,10,11,12,13,14,15,16,17,18,19,20,21,22,23,24,25,26,27,28],(.lone [])⟩,
sd 34 (.fieldA 0 (.t 8)) [0,1,2,4,5,6,7,8,9,10,11,12,13,14,15,16,17,18,19,20,21,22,23,24,25,26,27,28,29],
sd 35 (.fieldA 11 (.t 34)) [0,1,2,4,5,6,7,8,9,10,11,12,13,14,15,16,17,18,19,20,21,22,23,24,25,26,27,28,29,30],
⟨none,none,.store 1 (.t 35) (.t 24),[0,1,2,4,5,6,7,8,9,10,11,12,13,14,15,16,17,18,19,20,21,22,23,24,25,26,27,28,29,30,31],(.lone [])⟩,
sd 36 (.fieldA 0 (.t 9)) [0,1,2,3,4,5,6,7,8,9,10,11,12,13,14,15,16,17,18,19,20,21,22,23,24,25,26,27,28,29,30,31,32],
sd 37 (.fieldA 12 (.t 36)) [0,1,2,3,4,5,6,7,8,9,10,11,12,13,14,15,16,17,18,19,20,21,22,23,24,25,26,27,28,29,30,31,32,33],
⟨none,none,.store 1 (.t 37) (.t 29),[0,1,2,3,4,5,6,7,8,9,10,11,12,13,14,15,16,17,18,19,20,21,22,23,24,25,26,27,28,29,30,31,32,33,34],(.lone [])⟩])
 (.seq (.seq (.reg [sq 38 (.mv (.t 3)),
sq 39 (.fieldA 0 (.t 38)),
sq 40 (.fieldA 12 (.t 39)),
sq 41 (.load none (.t 40)),
sq 42 (.len (.t 41)),
sq 43 (.mv (kI 0))])
 (.sem (.block 0 (.loop (.seq (.reg [sq 44 (.bin .lss (.t 43) (.t 42))])
 (.seq (.cond (.t 44)
 .skip
 (.exit 0))
 (.seq (.block 1 (.seq (.reg [sq 45 (.mv (.t 43)),
sq 4 (.mv (.t 45))])
 (.regd [sq 46 (.mv (.t 3)),
sd 47 (.fieldA 0 (.t 46)) [0],
sd 48 (.fieldA 12 (.t 47)) [0,1],
sd 49 (.load none (.t 48)) [0,1,2],
sq 50 (.mv (.t 4)),
sq 51 (.mv (.t 3)),
sd 52 (.fieldA 0 (.t 51)) [5],
sd 53 (.fieldA 12 (.t 52)) [5,6],
sd 54 (.load none (.t 53)) [5,6,7],
sq 55 (.mv (.t 4)),
sd 56 (.indexA 2 (.t 54) (.t 55)) [5,6,7,8,9],
sd 57 (.fieldA 1 (.t 56)) [5,6,7,8,9,10],
sd 58 (.load none (.t 57)) [5,6,7,8,9,10,11],
zl 59 (.call 75 [(.t 58)]) [5,6,7,8,9,10,11,12] [46,47,48],
sd 60 (.indexA 2 (.t 49) (.t 50)) [0,1,2,3,4,5,6,7,8,9,10,11,12,13],
sd 61 (.fieldA 1 (.t 60)) [0,1,2,3,4,5,6,7,8,9,10,11,12,13,14],
⟨none,none,.store 1 (.t 61) (.t 59),[0,1,2,3,4,5,6,7,8,9,10,11,12,13,14,15],(.lone [])⟩])))
 (.reg [sq 62 (.bin .add (.t 43) (kI 1)),
sq 43 (.mv (.t 62))]))))))))
 (.seq (.regd [sq 63 (.fieldA 13 (.t 1)),
sd 64 (.load (some 5) (.t 63)) [0],
zn 65 (.call 77 [(.t 64)]) [0,1] [0,1],
sq 66 (.fieldA 18 (.t 1)),
sd 67 (.load (some 5) (.t 66)) [3],
zl 68 (.call 77 [(.t 67)]) [0,1,2,3,4] [],
sd 69 (.fieldA 13 (.t 1)) [0,1,2,3,4,5],
⟨none,none,.store 5 (.t 69) (.t 65),[0,1,2,3,4,5,6],(.lone [])⟩,
sd 70 (.fieldA 18 (.t 1)) [0,1,2,3,4,5,6,7],
⟨none,none,.store 5 (.t 70) (.t 68),[0,1,2,3,4,5,6,7,8],(.lone [])⟩])
 (.seq (.reg [sq 71 (.load (some 23) (.t 1)),
⟨none,none,.store 23 (.t 2) (.t 71),[],(.lone [1])⟩])
 .ret))))))⟩
theorem F36_ok{x0 r}(h:F36 x0=some r):CallD Tryz.prog 36 [.agg [dS x0.Meta.Kind,dS x0.Meta.Namespace,dS x0.Meta.Name,dI x0.Meta.Uid,dI x0.Meta.Version,dI x0.Meta.Generation,dI x0.Meta.Created,dB x0.Meta.Deleting,dI x0.Meta.DeleteAt,dM (x0.Meta.Labels.map eLabel),dM (x0.Meta.Owners.map eOwner),dM (x0.Meta.Finalizers.map eS),dM (x0.Meta.Managers.map eManager),dI x0.Spec.Kind,dI x0.Spec.N,dS x0.Spec.S,dM (x0.Spec.List_.map eTValue),dM (x0.Spec.Fields.map eTField),dI x0.Status.Kind,dI x0.Status.N,dS x0.Status.S,dM (x0.Status.List_.map eTValue),dM (x0.Status.Fields.map eTField)]] [] (tupV [.agg [dS x0.Meta.Kind,dS x0.Meta.Namespace,dS x0.Meta.Name,dI x0.Meta.Uid,dI x0.Meta.Version,dI x0.Meta.Generation,dI x0.Meta.Created,dB x0.Meta.Deleting,dI x0.Meta.DeleteAt,.own 0 0 0 (r.1.length) none,.own 1 0 0 (r.2.1.length) none,.own 2 0 0 (r.2.2.1.length) none,.own 3 0 0 (r.2.2.2.1.length) none,dI r.2.2.2.2.1,dI r.2.2.2.2.2.1,dS r.2.2.2.2.2.2.1,dM (r.2.2.2.2.2.2.2.1.map eTValue),dM (r.2.2.2.2.2.2.2.2.1.map eTField),dI r.2.2.2.2.2.2.2.2.2.1,dI r.2.2.2.2.2.2.2.2.2.2.1,dS r.2.2.2.2.2.2.2.2.2.2.2.1,dM (r.2.2.2.2.2.2.2.2.2.2.2.2.1.map eTValue),dM (r.2.2.2.2.2.2.2.2.2.2.2.2.2.map eTField)]]) [some (.arr 0 2 (r.1.map eLabel)),some (.arr 0 5 (r.2.1.map eOwner)),some (.arr 0 1 (r.2.2.1.map eS)),some (.arr 0 2 (r.2.2.2.1.map eManager))]:=by
 rw[F36]at h
 refine zc a36 (by kernel_rfl) rfl (ww ?_)
 obtain⟨t1,ht1,h⟩:=bi h
 refine cN [] (F73_ok ht1) trivial (ww ?_)
 refine kD_new (by simp[wrs,allW,hset]) (ww ?_)
 obtain⟨t2,ht2,h⟩:=bi h
 refine cN [] (F74_ok ht2) trivial (ww ?_)
 refine kD_new (by simp[wrs,allW,hset]) (ww ?_)
 obtain⟨t3,ht3,h⟩:=bi h
 refine cN [] (F75_ok ht3) trivial (ww ?_)
 refine kD_new (by simp[wrs,allW,hset]) (ww ?_)
 obtain⟨t4,ht4,h⟩:=bi h
 refine cN [] (F76_ok ht4) trivial (ww ?_)
 obtain⟨o5,ho,h⟩:=bi h
 refine cutS (fun s=>s=⟨[(1,.one (.c (.pt 0 0))),(2,.one (.c (.pt 5 0)))],[some (.box [dS x0.Meta.Kind,dS x0.Meta.Namespace,dS x0.Meta.Name,dI x0.Meta.Uid,dI x0.Meta.Version,dI x0.Meta.Generation,dI x0.Meta.Created,dB x0.Meta.Deleting,dI x0.Meta.DeleteAt,.own 1 0 0 (t1.length) none,.own 2 0 0 (t2.length) none,.own 3 0 0 (t3.length) none,.own 4 0 0 (o5.length) none,dI x0.Spec.Kind,dI x0.Spec.N,dS x0.Spec.S,dM (x0.Spec.List_.map eTValue),dM (x0.Spec.Fields.map eTField),dI x0.Status.Kind,dI x0.Status.N,dS x0.Status.S,dM (x0.Status.List_.map eTValue),dM (x0.Status.Fields.map eTField)]),some (.arr 0 2 (t1.map eLabel)),some (.arr 0 5 (t2.map eOwner)),some (.arr 0 1 (t3.map eS)),some (.arr 0 2 (o5.map eManager)),some (.box [dS ((⟨#[]⟩:ByteArray)),dS ((⟨#[]⟩:ByteArray)),dS ((⟨#[]⟩:ByteArray)),dI 0,dI 0,dI 0,dI 0,dB false,dI 0,dN,dN,dN,dN,dI 0,dI 0,dS ((⟨#[]⟩:ByteArray)),dN,dN,dI 0,dI 0,dS ((⟨#[]⟩:ByteArray)),dN,dN])]⟩) ?_ ?_
 ·have h:=ho
  clear ho
  obtain⟨_,hk,h⟩:=bi h
  have hk:=ck_some hk
  refine ww ?_
  refine bL (fun j s=>∃(o5_1:Nat) (o5_0:List Manager),(o5_1≤t4.length∧j=t4.length-o5_1)∧s=⟨[(1,.one (.c (.pt 0 0))),(2,.one (.c (.pt 5 0))),(3,.one (.c (.pt 0 0))),(42,.one (.c (dI ((t4.length:Int))))),(43,.one (.c (dI ((o5_1:Int)))))],[some (.box [dS x0.Meta.Kind,dS x0.Meta.Namespace,dS x0.Meta.Name,dI x0.Meta.Uid,dI x0.Meta.Version,dI x0.Meta.Generation,dI x0.Meta.Created,dB x0.Meta.Deleting,dI x0.Meta.DeleteAt,.own 1 0 0 (t1.length) none,.own 2 0 0 (t2.length) none,.own 3 0 0 (t3.length) none,.own 4 0 0 (o5_0.length) none,dI x0.Spec.Kind,dI x0.Spec.N,dS x0.Spec.S,dM (x0.Spec.List_.map eTValue),dM (x0.Spec.Fields.map eTField),dI x0.Status.Kind,dI x0.Status.N,dS x0.Status.S,dM (x0.Status.List_.map eTValue),dM (x0.Status.Fields.map eTField)]),some (.arr 0 2 (t1.map eLabel)),some (.arr 0 5 (t2.map eOwner)),some (.arr 0 1 (t3.map eS)),some (.arr 0 2 (o5_0.map eManager)),some (.box [dS ((⟨#[]⟩:ByteArray)),dS ((⟨#[]⟩:ByteArray)),dS ((⟨#[]⟩:ByteArray)),dI 0,dI 0,dI 0,dI 0,dB false,dI 0,dN,dN,dN,dN,dI 0,dI 0,dS ((⟨#[]⟩:ByteArray)),dN,dN,dI 0,dI 0,dS ((⟨#[]⟩:ByteArray)),dN,dN])]⟩∧F36_l5 (t4.drop o5_1) o5_1 o5_0=some o5) (t4.length-0) [some 0,some 2,some 3,some 4,some 5,some 1] ⟨0,t4,⟨hk.1,rfl⟩,rfl,h⟩ ?_
  rintro _ _ ⟨o5_1,o5_0,⟨hi,rfl⟩,rfl,h⟩
  refine ww ?_
  refine condS (fun c6=>?_) (fun c6=>?_)
  ·obtain⟨xo5,hxo5,hd⟩:=countY (show(o5_1:Int)<(t4.length:Int)from c6)
   rw[hd,F36_l5]at h
   refine ww ?_
   obtain⟨y7,hy7,h⟩:=bi h
   refine t_idxO (enc:=eManager) (xs:=o5_0) rfl rfl rfl (by first|rfl|simp only[List.length_set]|exact(clrL_len (slI_len (by assumption))).symm) hy7 (ww ?_)
   refine LdRow.rd (rdI_some hy7).2.1 (ww ?_)
   obtain⟨t8,ht8,h⟩:=bi h
   refine cN [] (F75_ok ht8) trivial (ww ?_)
   obtain⟨y9,hy9,h⟩:=bi h
   refine t_idxO (enc:=eManager) (xs:=o5_0) rfl rfl rfl (by first|rfl|simp only[List.length_set]|exact(clrL_len (slI_len (by assumption))).symm) hy9 (ww ?_)
   refine StRow.rd (y':=(⟨y9.Name,t8⟩:Manager)) (rdI_some hy9).2.1 (by simp[EE.down]) (by first|rfl|(simp only[bor_full'];rfl)) (ww ?_)
   rw[wrapN (by omega)]
   exact eL' (t4.length-(o5_1+1)) [some 0,some 1,some 2,some 3,some 4,some 5] ⟨o5_1+1,(o5_0.set ((o5_1:Int)).toNat ((⟨y9.Name,t8⟩:Manager))),⟨by omega,rfl⟩,rfl,h⟩ (by omega)
  rw[countN (show¬((o5_1:Int)<(t4.length:Int))from c6),F36_l5]at h
  refine ww ?_
  cases h
  exact eM [some 0,some 1,some 2,some 3,some 4,some 5] rfl
 rintro _ rfl
 clear ho
 refine ww ?_
 obtain⟨t11,ht11,h⟩:=bi h
 refine cN [] (F77_ok ht11) trivial (ww ?_)
 obtain⟨t12,ht12,h⟩:=bi h
 refine cN [] (F77_ok ht12) trivial (ww ?_)
 cases h
 exact eF [some 1,some 2,some 3,some 4]
def F116(rc49:TValue→TValue→Option (Int))(x0:TField)(x1:TField):Option (Int):=(F72 x0.Name x1.Name).bind fun t1=>(rc49 x0.V x1.V).bind fun t2=>(F112 ([t1,t2])).bind fun t3=>some t3
def a116:AFn:=⟨17,[(.tmp 4)],
 (.seq (.reg [sq 2 (.box (.t 0)),
sq 3 (.box (.t 1)),
sq 4 (.mv (kI 0))])
 (.seq (.regd [sq 5 (.fieldA 0 (.t 2)),
sd 6 (.load none (.t 5)) [0],
sq 7 (.fieldA 0 (.t 3)),
sd 8 (.load none (.t 7)) [2],
zn 9 (.call 72 [(.t 6),(.t 8)]) [0,1,2,3] [0,1,2,3],
sq 10 (.fieldA 1 (.t 2)),
sd 11 (.load (some 5) (.t 10)) [5],
sq 12 (.fieldA 1 (.t 3)),
sd 13 (.load (some 5) (.t 12)) [7],
zl 14 (.call 82 [(.t 11),(.t 13)]) [0,1,2,3,4,5,6,7,8] [],
zl 15 (.bslice 1 [(.t 9),(.t 14)]) [0,1,2,3,4,5,6,7,8,9] [],
zl 16 (.call 112 [(.t 15)]) [0,1,2,3,4,5,6,7,8,9,10] [],
sd 4 (.mv (.t 16)) [0,1,2,3,4,5,6,7,8,9,10,11]])
 .ret))⟩
theorem F116_ok{rc49:TValue→TValue→Option (Int)}(ih49:∀{x0:TValue} {x1:TValue} {r:Int} (h:rc49 x0 x1=some r),CallD Tryz.prog 82 [.agg [dI x0.Kind,dI x0.N,dS x0.S,dM (x0.List_.map eTValue),dM (x0.Fields.map eTField)],.agg [dI x1.Kind,dI x1.N,dS x1.S,dM (x1.List_.map eTValue),dM (x1.Fields.map eTField)]] [] (tupV [.c (dI r)]) []){x0:TField}{x1:TField}{r:Int}(h:F116 rc49 x0 x1=some r):CallD Tryz.prog 116 [.agg [dS x0.Name,dI x0.V.Kind,dI x0.V.N,dS x0.V.S,dM (x0.V.List_.map eTValue),dM (x0.V.Fields.map eTField)],.agg [dS x1.Name,dI x1.V.Kind,dI x1.V.N,dS x1.V.S,dM (x1.V.List_.map eTValue),dM (x1.V.Fields.map eTField)]] [] (tupV [.c (dI r)]) []:=by
 rw[F116]at h
 refine zc a116 (by kernel_rfl) rfl (ww ?_)
 obtain⟨t1,ht1,h⟩:=bi h
 refine cN [] (F72_ok ht1) trivial (ww ?_)
 obtain⟨t2,ht2,h⟩:=bi h
 refine cN [] (ih49 ht2) trivial (ww ?_)
 refine t_bslice (enc:=eI) (ys:=[t1,t2]) rfl rfl (by simp[A1.cells]) (by first|rfl|(simp only[List.drop_zero,take_mapL];rfl)|(simp only[lit,List.map_cons,List.map_nil,List.drop_zero,take_mapL,EE.down];done)|(simp only[lit,List.map_cons,List.map_nil,List.drop_zero,take_mapL,EE.down];rfl)) (ww ?_)
 obtain⟨t3,ht3,h⟩:=bi h
 refine callX_bor (F112_ok ht3) (by simp only[borAs,bors,hp,List.getElem?_cons_zero,List.getElem?_cons_succ,Option.join_some,List.drop_zero,bor_full',true_and,Nat.zero_add,List.length_map,Nat.le_refl,nrm,List.length_cons,List.length_nil,Nat.reduceAdd,Nat.reduceLeDiff,List.take_succ_cons,List.take_zero,List.take_nil,List.map_cons,List.map_nil,List.length_set,EE.down]) rfl ?_
 refine ww ?_
 cases h
 exact eF []
def F115_l1(rc49:TValue→TValue→Option (Int))(x1:(List TField)):List TField→Nat→Option ((Int) ⊕ (Unit))
 |[],o1_0=>some (Sum.inr (()))
 |xo1::xs,o1_0=>(if(x1.length:Int)≤(o1_0:Int)then(some 1).map Sum.inl else(rdI x1 ((o1_0:Int))).bind fun y4=>(F116 rc49 xo1 y4).bind fun t5=>(if¬(t5=0)then(some t5).map Sum.inl else F115_l1 rc49 x1 xs (o1_0+1)))
def F115(rc49:TValue→TValue→Option (Int))(x0:(List TField))(x1:(List TField)):Option (Int):=(((ck (0≤x0.length∧x0.length≤4294967290)).bind fun u7=>F115_l1 rc49 x1 x0 0:Option ((Int) ⊕ (Unit))).bind fun o1=>match o1 with|Sum.inl f=>some f|Sum.inr po1=>(if(x0.length:Int)<(x1.length:Int)then some ((-1))else some 0))
def a115:AFn:=⟨39,[(.tmp 6)],
 (.seq (.reg [sq 6 (.mv (kI 0))])
 (.seq (.seq (.reg [sq 11 (.mv (.t 0)),
sq 12 (.len (.t 11)),
sq 13 (.mv (kI 0))])
 (.sem (.block 0 (.loop (.seq (.reg [sq 14 (.bin .lss (.t 13) (.t 12))])
 (.seq (.cond (.t 14)
 .skip
 (.exit 0))
 (.seq (.block 1 (.seq (.reg [sq 15 (.mv (.t 13)),
sq 16 (.indexA 6 (.t 11) (.t 13)),
sq 17 (.load (some 6) (.t 16)),
sq 8 (.zbox [dS ⟨#[]⟩,dI 0,dI 0,dS ⟨#[]⟩,dN,dN]),
sq 7 (.mv (.t 15)),
su (.store 6 (.t 8) (.t 17))])
 (.seq (.seq (.reg [sq 18 (.mv (.t 7)),
sq 19 (.mv (.t 1)),
sq 20 (.len (.t 19)),
sq 21 (.bin .geq (.t 18) (.t 20))])
 (.cond (.t 21)
 (.seq (.reg [sq 6 (.mv (kI 1))])
 .ret)
 .skip))
 (.seq (.reg [sq 22 (.mv (.t 1)),
sq 23 (.mv (.t 7)),
sq 24 (.indexA 6 (.t 22) (.t 23)),
sq 25 (.load (some 6) (.t 24)),
sq 9 (.zbox [dS ⟨#[]⟩,dI 0,dI 0,dS ⟨#[]⟩,dN,dN]),
su (.store 6 (.t 9) (.t 25))])
 (.seq (.reg [sq 26 (.mv (.t 2)),
sq 27 (.load (some 6) (.t 8)),
sq 28 (.load (some 6) (.t 9)),
sq 29 (.callv (.t 26) [(.t 27),(.t 28)]),
sq 10 (.mv (.t 29))])
 (.seq (.reg [sq 30 (.mv (.t 10)),
sq 31 (.bin .neq (.t 30) (kI 0))])
 (.cond (.t 31)
 (.seq (.reg [sq 32 (.mv (.t 10)),
sq 6 (.mv (.t 32))])
 .ret)
 .skip)))))))
 (.reg [sq 33 (.bin .add (.t 13) (kI 1)),
sq 13 (.mv (.t 33))]))))))))
 (.seq (.seq (.reg [sq 34 (.mv (.t 0)),
sq 35 (.len (.t 34)),
sq 36 (.mv (.t 1)),
sq 37 (.len (.t 36)),
sq 38 (.bin .lss (.t 35) (.t 37))])
 (.cond (.t 38)
 (.seq (.reg [sq 6 (.mv (kI (-1)))])
 .ret)
 .skip))
 (.seq (.reg [sq 6 (.mv (kI 0))])
 .ret))))⟩
theorem F115_ok{rc49:TValue→TValue→Option (Int)}(ih49:∀{x0:TValue} {x1:TValue} {r:Int} (h:rc49 x0 x1=some r),CallD Tryz.prog 82 [.agg [dI x0.Kind,dI x0.N,dS x0.S,dM (x0.List_.map eTValue),dM (x0.Fields.map eTField)],.agg [dI x1.Kind,dI x1.N,dS x1.S,dM (x1.List_.map eTValue),dM (x1.Fields.map eTField)]] [] (tupV [.c (dI r)]) []){x0:(List TField)}{x1:(List TField)}{r:Int}(h:F115 rc49 x0 x1=some r):CallD Tryz.prog 115 [.c (dM (x0.map eTField)),.c (dM (x1.map eTField)),.c (.fn 116 [])] [] (tupV [.c (dI r)]) []:=by
 rw[F115]at h
 refine zc a115 (by kernel_rfl) rfl (ww ?_)
 obtain⟨o1,ho,h⟩:=bi h
 refine cutS (fun s=>∃po1,o1=Sum.inr po1∧s=⟨[(0,.one (.c (dM (x0.map eTField)))),(1,.one (.c (dM (x1.map eTField))))],[]⟩) ?_ ?_
 ·have h0o1:=h
  have h:=ho
  clear ho
  obtain⟨_,hk,h⟩:=bi h
  have hk:=ck_some hk
  refine ww ?_
  refine bL (fun j s=>∃(o1_0:Nat),(o1_0≤x0.length∧j=x0.length-o1_0)∧s=⟨[(0,.one (.c (dM (x0.map eTField)))),(1,.one (.c (dM (x1.map eTField)))),(2,.one (.c (.fn 116 []))),(11,.one (.c (dM (x0.map eTField)))),(12,.one (.c (dI ((x0.length:Int))))),(13,.one (.c (dI ((o1_0:Int)))))],[]⟩∧F115_l1 rc49 x1 (x0.drop o1_0) o1_0=some o1) (x0.length-0) [] ⟨0,⟨hk.1,rfl⟩,rfl,h⟩ ?_
  rintro _ _ ⟨o1_0,⟨hi,rfl⟩,rfl,h⟩
  refine ww ?_
  refine condS (fun c2=>?_) (fun c2=>?_)
  ·obtain⟨xo1,hxo1,hd⟩:=countY (show(o1_0:Int)<(x0.length:Int)from c2)
   rw[hd,F115_l1]at h
   refine ww ?_
   refine t_idxF (enc:=eTField) (xs:=x0) rfl rfl hxo1 (by rw[eTField_u];rfl) (ww ?_)
   refine condSh h (fun c3 h=>?_) (fun c3 h=>?_)
   ·refine ww ?_
    obtain⟨fh0o1,hfh0o1,rfl⟩:=Option.map_eq_some_iff.1 h
    have h:=hfh0o1.trans h0o1
    cases h
    exact eF []
   refine ww ?_
   obtain⟨y4,hy4,h⟩:=bi h
   refine t_idxF (enc:=eTField) (xs:=x1) rfl rfl hy4 (by rw[eTField_u];rfl) (ww ?_)
   obtain⟨t5,ht5,h⟩:=bi h
   refine cN [] (F116_ok ih49 ht5) trivial (ww ?_)
   refine condSh h (fun c6 h=>?_) (fun c6 h=>?_)
   ·refine ww ?_
    obtain⟨fh0o1,hfh0o1,rfl⟩:=Option.map_eq_some_iff.1 h
    have h:=hfh0o1.trans h0o1
    cases h
    exact eF []
   refine ww ?_
   rw[wrapN (by omega)]
   exact eL' (x0.length-(o1_0+1)) [] ⟨o1_0+1,⟨by omega,rfl⟩,rfl,h⟩ (by omega)
  rw[countN (show¬((o1_0:Int)<(x0.length:Int))from c2),F115_l1]at h
  refine ww ?_
  cases h
  exact eM [] ⟨_,rfl,rfl⟩
 rintro _ ⟨po1,rfl,rfl⟩
 clear ho
 dsimp only at h
 refine ww ?_
 refine condSh h (fun c8 h=>?_) (fun c8 h=>?_)
 ·refine ww ?_
  cases h
  exact eF []
 refine ww ?_
 cases h
 exact eF []
def F42(x0:Meta):Option (Bool):=(((F83 x0.Kind).bind fun t2=>(if(nb t2)=true then some true else(if¬(x0.Namespace=(⟨#[]⟩:ByteArray))then(F84 x0.Namespace).bind fun t5=>(if(nb t5)=true then some true else(F84 x0.Name).bind fun t7=>some (nb t7))else(F84 x0.Name).bind fun t8=>some (nb t8)))).bind fun o1=>(if o1=true then some false else(((if x0.Uid<0 then some true else(if x0.Version<0 then some true else(if x0.Generation<0 then some true else(if x0.Created<0 then some true else(if x0.DeleteAt<0 then some true else(if(nb x0.Deleting)=true then some (decide (¬(x0.DeleteAt=0)))else some false))))))).bind fun o10=>(if o10=true then some false else(((F85 x0.Labels).bind fun t19=>(if t19=true then(F86 x0.Owners).bind fun t21=>(if t21=true then(F87 x0.Finalizers).bind fun t23=>(if t23=true then(F88 x0.Managers).bind fun t25=>some t25 else some false)else some false)else some false)).bind fun o18=>some o18)))))
def a42:AFn:=⟨75,[(.tmp 2)],
 (.seq (.reg [sq 1 (.box (.t 0)),
sq 2 (.mv (kB false))])
 (.seq (.seq (.sem (.reg [sq 3 (.fieldA 0 (.t 1)),
sq 4 (.load none (.t 3)),
sq 5 (.call 83 [(.t 4)]),
sq 6 (.not (.t 5)),
sq 7 (.mv (.t 6)),
zg 8 7 false (.fieldA 1 (.t 1)),
zg 9 7 false (.load none (.t 8)),
zg 10 7 false (.bin .neq (.t 9) (kS ⟨#[]⟩)),
zg 11 7 false (.mv (.t 10)),
zg 12 11 true (.fieldA 1 (.t 1)),
zg 13 11 true (.load none (.t 12)),
zg 14 11 true (.call 84 [(.t 13)]),
zg 15 11 true (.not (.t 14)),
zg 16 7 false (.pick (.t 11) (.t 15) (kB false)),
sq 17 (.pick (.t 7) (kB true) (.t 16)),
sq 18 (.mv (.t 17)),
zg 19 18 false (.fieldA 2 (.t 1)),
zg 20 18 false (.load none (.t 19)),
zg 21 18 false (.call 84 [(.t 20)]),
zg 22 18 false (.not (.t 21)),
sq 23 (.pick (.t 18) (kB true) (.t 22))]))
 (.cond (.t 23)
 (.seq (.reg [sq 2 (.mv (kB false))])
 .ret)
 .skip))
 (.seq (.seq (.sem (.reg [sq 24 (.fieldA 3 (.t 1)),
sq 25 (.load none (.t 24)),
sq 26 (.bin .lss (.t 25) (kI 0)),
sq 27 (.mv (.t 26)),
zg 28 27 false (.fieldA 4 (.t 1)),
zg 29 27 false (.load none (.t 28)),
zg 30 27 false (.bin .lss (.t 29) (kI 0)),
sq 31 (.pick (.t 27) (kB true) (.t 30)),
sq 32 (.mv (.t 31)),
zg 33 32 false (.fieldA 5 (.t 1)),
zg 34 32 false (.load none (.t 33)),
zg 35 32 false (.bin .lss (.t 34) (kI 0)),
sq 36 (.pick (.t 32) (kB true) (.t 35)),
sq 37 (.mv (.t 36)),
zg 38 37 false (.fieldA 6 (.t 1)),
zg 39 37 false (.load none (.t 38)),
zg 40 37 false (.bin .lss (.t 39) (kI 0)),
sq 41 (.pick (.t 37) (kB true) (.t 40)),
sq 42 (.mv (.t 41)),
zg 43 42 false (.fieldA 8 (.t 1)),
zg 44 42 false (.load none (.t 43)),
zg 45 42 false (.bin .lss (.t 44) (kI 0)),
sq 46 (.pick (.t 42) (kB true) (.t 45)),
sq 47 (.mv (.t 46)),
zg 48 47 false (.fieldA 7 (.t 1)),
zg 49 47 false (.load none (.t 48)),
zg 50 47 false (.not (.t 49)),
zg 51 47 false (.mv (.t 50)),
zg 52 51 true (.fieldA 8 (.t 1)),
zg 53 51 true (.load none (.t 52)),
zg 54 51 true (.bin .neq (.t 53) (kI 0)),
zg 55 47 false (.pick (.t 51) (.t 54) (kB false)),
sq 56 (.pick (.t 47) (kB true) (.t 55))]))
 (.cond (.t 56)
 (.seq (.reg [sq 2 (.mv (kB false))])
 .ret)
 .skip))
 (.seq (.sem (.reg [sq 57 (.fieldA 9 (.t 1)),
sq 58 (.load none (.t 57)),
sq 59 (.call 85 [(.t 58)]),
sq 60 (.mv (.t 59)),
zg 61 60 true (.fieldA 10 (.t 1)),
zg 62 60 true (.load none (.t 61)),
zg 63 60 true (.call 86 [(.t 62)]),
sq 64 (.pick (.t 60) (.t 63) (kB false)),
sq 65 (.mv (.t 64)),
zg 66 65 true (.fieldA 11 (.t 1)),
zg 67 65 true (.load none (.t 66)),
zg 68 65 true (.call 87 [(.t 67)]),
sq 69 (.pick (.t 65) (.t 68) (kB false)),
sq 70 (.mv (.t 69)),
zg 71 70 true (.fieldA 12 (.t 1)),
zg 72 70 true (.load none (.t 71)),
zg 73 70 true (.call 88 [(.t 72)]),
sq 74 (.pick (.t 70) (.t 73) (kB false)),
sq 2 (.mv (.t 74))]))
 .ret))))⟩
theorem F42_ok{x0 r}(h:F42 x0=some r):CallD Tryz.prog 42 [.agg [dS x0.Kind,dS x0.Namespace,dS x0.Name,dI x0.Uid,dI x0.Version,dI x0.Generation,dI x0.Created,dB x0.Deleting,dI x0.DeleteAt,dM (x0.Labels.map eLabel),dM (x0.Owners.map eOwner),dM (x0.Finalizers.map eS),dM (x0.Managers.map eManager)]] [] (tupV [.c (dB r)]) []:=by
 rw[F42]at h
 refine zc a42 (by kernel_rfl) rfl (ww ?_)
 obtain⟨o1,ho,h⟩:=bi h
 refine cutS (fun s=>s=⟨[(1,.one (.c (.pt 0 0))),(23,.one (.c (dB o1)))],[some (.box [dS x0.Kind,dS x0.Namespace,dS x0.Name,dI x0.Uid,dI x0.Version,dI x0.Generation,dI x0.Created,dB x0.Deleting,dI x0.DeleteAt,dM (x0.Labels.map eLabel),dM (x0.Owners.map eOwner),dM (x0.Finalizers.map eS),dM (x0.Managers.map eManager)])]⟩) ?_ ?_
 ·have h:=ho
  clear ho
  refine ww ?_
  obtain⟨t2,ht2,h⟩:=bi h
  refine cN [] (F83_ok ht2) trivial (ww ?_)
  refine guardSBh h (fun g3 h=>?_) (fun g3 h=>?_)
  ·refine ww ?_
   cases h
   exact eM [some 0] rfl
  refine ww ?_
  refine guardSh h (fun g4 h=>?_) (fun g4 h=>?_)
  ·refine ww ?_
   obtain⟨t5,ht5,h⟩:=bi h
   refine cN [] (F84_ok ht5) trivial (ww ?_)
   refine guardSBh h (fun g6 h=>?_) (fun g6 h=>?_)
   ·refine ww ?_
    cases h
    exact eM [some 0] rfl
   refine ww ?_
   obtain⟨t7,ht7,h⟩:=bi h
   refine cN [] (F84_ok ht7) trivial (ww ?_)
   cases h
   exact eM [some 0] rfl
  refine ww ?_
  obtain⟨t8,ht8,h⟩:=bi h
  refine cN [] (F84_ok ht8) trivial (ww ?_)
  cases h
  exact eM [some 0] rfl
 rintro _ rfl
 clear ho
 refine ww ?_
 refine condBh h (fun c9 h=>?_) (fun c9 h=>?_)
 ·refine ww ?_
  cases h
  exact eF []
 refine ww ?_
 obtain⟨o10,ho,h⟩:=bi h
 refine cutS (fun s=>s=⟨[(1,.one (.c (.pt 0 0))),(56,.one (.c (dB o10)))],[some (.box [dS x0.Kind,dS x0.Namespace,dS x0.Name,dI x0.Uid,dI x0.Version,dI x0.Generation,dI x0.Created,dB x0.Deleting,dI x0.DeleteAt,dM (x0.Labels.map eLabel),dM (x0.Owners.map eOwner),dM (x0.Finalizers.map eS),dM (x0.Managers.map eManager)])]⟩) ?_ ?_
 ·have h:=ho
  clear ho
  refine ww ?_
  refine guardSh h (fun g11 h=>?_) (fun g11 h=>?_)
  ·refine ww ?_
   cases h
   exact eM [some 0] rfl
  refine ww ?_
  refine guardSh h (fun g12 h=>?_) (fun g12 h=>?_)
  ·refine ww ?_
   cases h
   exact eM [some 0] rfl
  refine ww ?_
  refine guardSh h (fun g13 h=>?_) (fun g13 h=>?_)
  ·refine ww ?_
   cases h
   exact eM [some 0] rfl
  refine ww ?_
  refine guardSh h (fun g14 h=>?_) (fun g14 h=>?_)
  ·refine ww ?_
   cases h
   exact eM [some 0] rfl
  refine ww ?_
  refine guardSh h (fun g15 h=>?_) (fun g15 h=>?_)
  ·refine ww ?_
   cases h
   exact eM [some 0] rfl
  refine ww ?_
  refine guardSBh h (fun g16 h=>?_) (fun g16 h=>?_)
  ·refine ww ?_
   cases h
   exact eM [some 0] rfl
  refine ww ?_
  cases h
  exact eM [some 0] rfl
 rintro _ rfl
 clear ho
 refine ww ?_
 refine condBh h (fun c17 h=>?_) (fun c17 h=>?_)
 ·refine ww ?_
  cases h
  exact eF []
 refine ww ?_
 obtain⟨o18,ho,h⟩:=bi h
 refine cutS (fun s=>s=⟨[(2,.one (.c (dB o18)))],[]⟩) ?_ ?_
 ·have h:=ho
  clear ho
  refine ww ?_
  obtain⟨t19,ht19,h⟩:=bi h
  refine cN [] (F85_ok ht19) trivial (ww ?_)
  refine guardSBh h (fun g20 h=>?_) (fun g20 h=>?_)
  ·refine ww ?_
   obtain⟨t21,ht21,h⟩:=bi h
   refine cN [] (F86_ok ht21) trivial (ww ?_)
   refine guardSBh h (fun g22 h=>?_) (fun g22 h=>?_)
   ·refine ww ?_
    obtain⟨t23,ht23,h⟩:=bi h
    refine cN [] (F87_ok ht23) trivial (ww ?_)
    refine guardSBh h (fun g24 h=>?_) (fun g24 h=>?_)
    ·refine ww ?_
     obtain⟨t25,ht25,h⟩:=bi h
     refine cN [] (F88_ok ht25) trivial (ww ?_)
     cases h
     exact eM [] rfl
    refine ww ?_
    cases h
    exact eM [] rfl
   refine ww ?_
   cases h
   exact eM [] rfl
  refine ww ?_
  cases h
  exact eM [] rfl
 rintro _ rfl
 clear ho
 refine ww ?_
 cases h
 exact eF []
def F43(x0:TValue):Option (Bool):=(((F89k 1099511627776 x0 12).bind fun t2=>(if t2=true then(F31k 1099511627776 x0).bind fun t4=>some (decide (t4≤600))else some false)).bind fun o1=>some o1)
def a43:AFn:=⟨10,[(.tmp 2)],
 (.seq (.reg [sq 1 (.box (.t 0)),
sq 2 (.mv (kB false))])
 (.seq (.sem (.reg [sq 3 (.load (some 5) (.t 1)),
sq 4 (.call 89 [(.t 3),(kI 12)]),
sq 5 (.mv (.t 4)),
zg 6 5 true (.load (some 5) (.t 1)),
zg 7 5 true (.call 31 [(.t 6)]),
zg 8 5 true (.bin .leq (.t 7) (kI 600)),
sq 9 (.pick (.t 5) (.t 8) (kB false)),
sq 2 (.mv (.t 9))]))
 .ret))⟩
theorem F43_ok{x0 r}(h:F43 x0=some r):CallD Tryz.prog 43 [.agg [dI x0.Kind,dI x0.N,dS x0.S,dM (x0.List_.map eTValue),dM (x0.Fields.map eTField)]] [] (tupV [.c (dB r)]) []:=by
 rw[F43]at h
 refine zc a43 (by kernel_rfl) rfl (ww ?_)
 obtain⟨o1,ho,h⟩:=bi h
 refine cutS (fun s=>s=⟨[(2,.one (.c (dB o1)))],[]⟩) ?_ ?_
 ·have h:=ho
  clear ho
  refine ww ?_
  obtain⟨t2,ht2,h⟩:=bi h
  refine cN [] (F89k_ok 1099511627776 ht2) trivial (ww ?_)
  refine guardSBh h (fun g3 h=>?_) (fun g3 h=>?_)
  ·refine ww ?_
   obtain⟨t4,ht4,h⟩:=bi h
   refine cN [] (F31k_ok 1099511627776 ht4) trivial (ww ?_)
   cases h
   exact eM [] rfl
  refine ww ?_
  cases h
  exact eM [] rfl
 rintro _ rfl
 clear ho
 refine ww ?_
 cases h
 exact eF []
def F14(x0:Object):Option (Bool):=(((F42 x0.Meta).bind fun t2=>(if t2=true then(F43 x0.Spec).bind fun t4=>(if t4=true then(F43 x0.Status).bind fun t6=>some t6 else some false)else some false)).bind fun o1=>some o1)
def a14:AFn:=⟨16,[(.tmp 2)],
 (.seq (.reg [sq 1 (.box (.t 0)),
sq 2 (.mv (kB false))])
 (.seq (.sem (.reg [sq 3 (.fieldA 0 (.t 1)),
sq 4 (.load (some 13) (.t 3)),
sq 5 (.call 42 [(.t 4)]),
sq 6 (.mv (.t 5)),
zg 7 6 true (.fieldA 13 (.t 1)),
zg 8 6 true (.load (some 5) (.t 7)),
zg 9 6 true (.call 43 [(.t 8)]),
sq 10 (.pick (.t 6) (.t 9) (kB false)),
sq 11 (.mv (.t 10)),
zg 12 11 true (.fieldA 18 (.t 1)),
zg 13 11 true (.load (some 5) (.t 12)),
zg 14 11 true (.call 43 [(.t 13)]),
sq 15 (.pick (.t 11) (.t 14) (kB false)),
sq 2 (.mv (.t 15))]))
 .ret))⟩
theorem F14_ok{x0 r}(h:F14 x0=some r):CallD Tryz.prog 14 [.agg [dS x0.Meta.Kind,dS x0.Meta.Namespace,dS x0.Meta.Name,dI x0.Meta.Uid,dI x0.Meta.Version,dI x0.Meta.Generation,dI x0.Meta.Created,dB x0.Meta.Deleting,dI x0.Meta.DeleteAt,dM (x0.Meta.Labels.map eLabel),dM (x0.Meta.Owners.map eOwner),dM (x0.Meta.Finalizers.map eS),dM (x0.Meta.Managers.map eManager),dI x0.Spec.Kind,dI x0.Spec.N,dS x0.Spec.S,dM (x0.Spec.List_.map eTValue),dM (x0.Spec.Fields.map eTField),dI x0.Status.Kind,dI x0.Status.N,dS x0.Status.S,dM (x0.Status.List_.map eTValue),dM (x0.Status.Fields.map eTField)]] [] (tupV [.c (dB r)]) []:=by
 rw[F14]at h
 refine zc a14 (by kernel_rfl) rfl (ww ?_)
 obtain⟨o1,ho,h⟩:=bi h
 refine cutS (fun s=>s=⟨[(2,.one (.c (dB o1)))],[]⟩) ?_ ?_
 ·have h:=ho
  clear ho
  refine ww ?_
  obtain⟨t2,ht2,h⟩:=bi h
  refine cN [] (F42_ok ht2) trivial (ww ?_)
  refine guardSBh h (fun g3 h=>?_) (fun g3 h=>?_)
  ·refine ww ?_
   obtain⟨t4,ht4,h⟩:=bi h
   refine cN [] (F43_ok ht4) trivial (ww ?_)
   refine guardSBh h (fun g5 h=>?_) (fun g5 h=>?_)
   ·refine ww ?_
    obtain⟨t6,ht6,h⟩:=bi h
    refine cN [] (F43_ok ht6) trivial (ww ?_)
    cases h
    exact eM [] rfl
   refine ww ?_
   cases h
   exact eM [] rfl
  refine ww ?_
  cases h
  exact eM [] rfl
 rintro _ rfl
 clear ho
 refine ww ?_
 cases h
 exact eF []
end Go.Proofs.YtbopaemngpbdgaaGreat
