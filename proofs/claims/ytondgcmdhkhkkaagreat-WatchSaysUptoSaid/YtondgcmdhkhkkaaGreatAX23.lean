/- Each Go function as a function over typed data, and its walk. -/
import Derived.Test.YtondgcmdhkhkkaaGreatAX
import Derived.Test.YtondgcmdhkhkkaaGreatAX7
import Derived.Test.YtondgcmdhkhkkaaGreatAX8
import Derived.Test.YtondgcmdhkhkkaaGreatAX16
import Derived.Test.YtondgcmdhkhkkaaGreatAX19
import Derived.Test.YtondgcmdhkhkkaaGreatAX20
import Derived.Test.YtondgcmdhkhkkaaGreatAX21
namespace Go.Proofs.YtondgcmdhkhkkaaGreat
open Go Go.Fw Go.Shelf
set_option maxRecDepth 100000
set_option maxHeartbeats 4000000
set_option linter.unusedSimpArgs false
set_option linter.unusedVariables false
def F21(x0:TStore)(x1:Int):Option ((List Object)×Int):=(((if x1<0 then some true else some (decide (x0.Rev<x1)))).bind fun o1=>(if o1=true then some (([],5))else(if x1<x0.Floor then some (([],10))else(F54 x0 x1).bind fun t5=>(F53 t5).bind fun t6=>some ((t6,0)))))
def a21:AFn:=⟨24,[(.tmp 4),(.tmp 5)],
 (.seq (.reg [sq 2 (.box (.t 0)),
sq 4 (.mv kN),
sq 5 (.mv (kI 0))])
 (.seq (.block 0 (.seq (.sem (.reg [sq 7 (.mv (.t 1)),
sq 8 (.bin .lss (.t 7) (kI 0)),
sq 9 (.mv (.t 8)),
zg 10 9 false (.mv (.t 1)),
zg 11 9 false (.fieldA 0 (.t 2)),
zg 12 9 false (.load none (.t 11)),
zg 13 9 false (.bin .gtr (.t 10) (.t 12)),
sq 14 (.pick (.t 9) (kB true) (.t 13)),
sq 6 (.mv (.t 14))]))
 (.cond (.t 6)
 (.seq (.reg [sq 4 (.mv kN),
sq 5 (.mv (kI 5))])
 .ret)
 (.seq (.reg [sq 16 (.mv (.t 1)),
sq 17 (.fieldA 1 (.t 2)),
sq 18 (.load none (.t 17)),
sq 19 (.bin .lss (.t 16) (.t 18)),
sq 15 (.mv (.t 19))])
 (.cond (.t 15)
 (.seq (.reg [sq 4 (.mv kN),
sq 5 (.mv (kI 10))])
 .ret)
 .skip)))))
 (.seq (.reg [sq 20 (.load (some 6) (.t 2)),
sq 21 (.mv (.t 1)),
sq 22 (.call 54 [(.t 20),(.t 21)]),
sq 23 (.call 53 [(.t 22)]),
sq 4 (.mv (.t 23)),
sq 5 (.mv (kI 0))])
 .ret)))⟩
theorem a21_ok:afn Tryz.prog 21=some a21.er:=by kernel_rfl
theorem F21_ok{x0 x1 r}(h:F21 x0 x1=some r):CallD Tryz.prog 21 [.agg [dI x0.Rev,dI x0.Floor,dI x0.NextUid,dM (x0.Base.map eObject),dM (x0.Objects.map eObject),dM (x0.History.map eChange)],.c (dI x1)] [] (tupV [.c (.own 0 0 0 (r.1.length) none),.c (dI r.2)]) [some (.arr 0 23 (r.1.map eObject))]:=by
 refine callS a21_ok (by simp[a21]) ?_
 rw[F21]at h
 simp only[a21,VW.down,Nat.reduceEqDiff,reduceCtorEq,Nat.reduceAdd,Nat.reduceLeDiff,Nat.reduceLT,Nat.reduceBEq,Nat.reduceSub,EE.down]
 obtain⟨o1,ho,h⟩:=bi h
 refine cutS (fun s=>s=⟨[(1,.one (.c (dI x1))),(2,.one (.c (.pt 0 0))),(6,.one (.c (dB o1)))],[some (.box [dI x0.Rev,dI x0.Floor,dI x0.NextUid,dM (x0.Base.map eObject),dM (x0.Objects.map eObject),dM (x0.History.map eChange)])]⟩) ?_ ?_
 ·have h:=ho
  clear ho
  refine ww ?_
  refine guardSh h (fun g2 h=>?_) (fun g2 h=>?_)
  ·refine ww ?_
   cases h
   exact eM [some 0] rfl
  refine ww ?_
  cases h
  exact eM [some 0] rfl
 rintro _ rfl
 clear ho
 refine ww ?_
 refine condBh h (fun c3 h=>?_) (fun c3 h=>?_)
 ·refine ww ?_
  cases h
  exact eF [none]
 refine ww ?_
 refine condSh h (fun c4 h=>?_) (fun c4 h=>?_)
 ·refine ww ?_
  cases h
  exact eF [none]
 refine ww ?_
 obtain⟨t5,ht5,h⟩:=bi h
 refine cN [] (F54_ok ht5) trivial (ww ?_)
 obtain⟨t6,ht6,h⟩:=bi h
 refine callX_gen (as1:=[.c (dM (t5.map eObject))]) [(1,.arr 1 23 [])] [some 0,none] [] (F53_ok ht6) ⟨?_,rfl,?_⟩ ?_ ?_ ?_ ?_ ?_ ?_ ?_ ?_
 ·simp only[ZZ.down,Nat.reduceEqDiff,reduceCtorEq,Nat.reduceAdd,Nat.reduceLeDiff,Nat.reduceLT,Nat.reduceBNe,EE.down]
 ·simp only[ZZ.down,Nat.reduceEqDiff,reduceCtorEq,Nat.reduceAdd,Nat.reduceLeDiff,Nat.reduceLT,Nat.reduceBNe,EE.down]
 ·simp only[ZZ.down,Nat.reduceEqDiff,reduceCtorEq,Nat.reduceAdd,Nat.reduceLeDiff,Nat.reduceLT,Nat.reduceBNe,EE.down]
 ·rfl
 ·rfl
 ·simp[liveAll,A1.live,C.live]
 ·rfl
 ·decide
 ·exact trivial
 refine ww ?_
 cases h
 exact eF [some 2]
def F14_l5(t4:(List Object)×Int)(x1:Watcher):List Object→Nat→(List (ByteArray×Bool))→Option ((List (ByteArray×Bool)))
 |[],o5_1,o5_0=>some o5_0
 |xo5::xs,o5_1,o5_0=>(rdI t4.1 ((o5_1:Int))).bind fun y7=>(F24 y7.Meta).bind fun t8=>(F16 x1.Filter y7).bind fun t9=>F14_l5 t4 x1 xs (o5_1+1) ((putM t8 t9 o5_0))
def F14_l11(t1:(List Requirement))(x1:Watcher)(x2:Int):List Change→Nat→Int→(List (ByteArray×Bool))→(List Event)→Option (((List Requirement)×Int×(List Event)×Int) ⊕ (Int×(List Event)))
 |[],o11_3,o11_0,o11_1,o11_2=>some (Sum.inr ((o11_0,o11_2)))
 |xo11::xs,o11_3,o11_0,o11_1,o11_2=>(((if xo11.Rev≤x1.Rev then some (Sum.inr ((o11_0,o11_1,o11_2)))else(F24 xo11.Object.Meta).bind fun t15=>(F37 x1.Filter xo11 (((getM t15 o11_1).getD false))).bind fun t16=>(((if t16=1 then some ((putM t15 true o11_1))else some ((putM t15 (decide (t16=2)) o11_1)))).bind fun o17=>(if t16=0 then some (Sum.inr ((o11_0,o17,o11_2)))else(F38 xo11.Object).bind fun t20=>(apI o11_2 ([(⟨t16,xo11.Rev,(⟨(⟨xo11.Object.Meta.Kind,xo11.Object.Meta.Namespace,xo11.Object.Meta.Name,xo11.Object.Meta.Uid,xo11.Object.Meta.Version,xo11.Object.Meta.Generation,xo11.Object.Meta.Created,xo11.Object.Meta.Deleting,xo11.Object.Meta.DeleteAt,t20.1,t20.2.1,t20.2.2.1,t20.2.2.2.1⟩:Meta),(⟨t20.2.2.2.2.1,t20.2.2.2.2.2.1,t20.2.2.2.2.2.2.1,t20.2.2.2.2.2.2.2.1,t20.2.2.2.2.2.2.2.2.1⟩:TValue),(⟨t20.2.2.2.2.2.2.2.2.2.1,t20.2.2.2.2.2.2.2.2.2.2.1,t20.2.2.2.2.2.2.2.2.2.2.2.1,t20.2.2.2.2.2.2.2.2.2.2.2.2.1,t20.2.2.2.2.2.2.2.2.2.2.2.2.2⟩:TValue)⟩:Object)⟩:Event)])).bind fun a21=>(if(a21.length:Int)=(if x2<1 then 1 else x2)then((some ((t1,xo11.Rev,a21,0))).map Sum.inl).map Sum.inl else some (Sum.inr ((xo11.Rev,o17,a21))))))):Option ((((List Requirement)×Int×(List Event)×Int) ⊕ (Int×(List Event))) ⊕ (Int×(List (ByteArray×Bool))×(List Event)))).bind fun o13=>match o13 with|Sum.inl f=>some f|Sum.inr po13=>F14_l11 t1 x1 x2 xs (o11_3+1) po13.1 po13.2.1 po13.2.2)
def F14(x0:TStore)(x1:Watcher)(x2:Int):Option ((List Requirement)×Int×(List Event)×Int):=(F35 x1.Filter).bind fun t1=>(F34 x0 x1.Filter x1.Rev).bind fun t2=>(if¬(t2=0)then some ((t1,x1.Rev,[],t2))else(F21 x0 x1.Rev).bind fun t4=>(((ck (0≤t4.1.length∧t4.1.length≤4294967290)).bind fun u10=>F14_l5 t4 x1 t4.1 0 ([])).bind fun o5=>(((ck (0≤x0.History.length∧x0.History.length≤4294967290)).bind fun u23=>F14_l11 t1 x1 x2 x0.History 0 x1.Rev o5 ([]):Option (((List Requirement)×Int×(List Event)×Int) ⊕ (Int×(List Event)))).bind fun o11=>match o11 with|Sum.inl f=>some f|Sum.inr po11=>(((if po11.1<x0.Rev then(apI po11.2 ([(⟨4,x0.Rev,(⟨(⟨(⟨#[]⟩:ByteArray),(⟨#[]⟩:ByteArray),(⟨#[]⟩:ByteArray),0,0,0,0,false,0,[],[],[],[]⟩:Meta),(⟨0,0,(⟨#[]⟩:ByteArray),[],[]⟩:TValue),(⟨0,0,(⟨#[]⟩:ByteArray),[],[]⟩:TValue)⟩:Object)⟩:Event)])).bind fun a26=>some ((x0.Rev,a26))else some ((po11.1,po11.2)))).bind fun o24=>some ((t1,o24.1,o24.2,0))))))
def a14:AFn:=⟨131,[(.cell 6 (some 4)),(.tmp 7),(.tmp 8)],
 (.seq (.reg [sq 3 (.box (.t 0)),
sq 4 (.box (.t 1)),
sq 6 (.zbox [dS ⟨#[]⟩,dS ⟨#[]⟩,dN,dI 0]),
sq 7 (.mv kN),
sq 8 (.mv (kI 0))])
 (.seq (.regd [sq 21 (.fieldA 0 (.t 4)),
sd 22 (.load (some 3) (.t 21)) [0],
zn 23 (.call 35 [(.t 22)]) [0,1] [0,1],
sq 24 (.fieldA 3 (.t 4)),
sd 25 (.load none (.t 24)) [3],
sd 26 (.build [dS ⟨#[]⟩,dS ⟨#[]⟩,dN,dI 0] [(0,3,(.t 23)),(3,1,(.t 25))]) [0,1,2,3,4],
sq 9 (.zbox [dS ⟨#[]⟩,dS ⟨#[]⟩,dN,dI 0]),
⟨none,none,.store 4 (.t 9) (.t 26),[0,1,2,3,4,5,6],(.lone [])⟩])
 (.seq (.seq (.reg [sq 27 (.load (some 6) (.t 3)),
sq 28 (.fieldA 0 (.t 4)),
sq 29 (.load (some 3) (.t 28)),
sq 30 (.fieldA 3 (.t 4)),
sq 31 (.load none (.t 30)),
sq 32 (.call 34 [(.t 27),(.t 29),(.t 31)]),
sq 10 (.mv (.t 32))])
 (.seq (.reg [sq 33 (.mv (.t 10)),
sq 34 (.bin .neq (.t 33) (kI 0))])
 (.cond (.t 34)
 (.seq (.reg [sq 35 (.load (some 4) (.t 9)),
sq 36 (.mv (.t 10)),
su (.store 4 (.t 6) (.t 35)),
sq 7 (.mv kN),
sq 8 (.mv (.t 36))])
 .ret)
 .skip)))
 (.seq (.reg [sq 37 (.mv (.t 2)),
sq 38 (.max (.t 37) (kI 1)),
sq 2 (.mv (.t 38))])
 (.seq (.reg [sq 39 (.mkmap),
sq 11 (.mv (.t 39))])
 (.seq (.reg [sq 41 (.load (some 6) (.t 3)),
sq 42 (.fieldA 3 (.t 4)),
sq 43 (.load none (.t 42)),
sq 44 (.call 21 [(.t 41),(.t 43)]),
sq 40 (.mv (.t 44)),
sq 45 (.ext (.t 40) 0),
sq 46 (.ext (.t 40) 1),
sq 12 (.mv (.t 45)),
sq 13 (.mv (.t 46))])
 (.seq (.seq (.reg [sq 47 (.mv (.t 12)),
sq 48 (.len (.t 47)),
sq 49 (.mv (kI 0))])
 (.sem (.block 0 (.loop (.seq (.reg [sq 50 (.bin .lss (.t 49) (.t 48))])
 (.seq (.cond (.t 50)
 .skip
 (.exit 0))
 (.seq (.block 1 (.seq (.reg [sq 51 (.indexA 23 (.t 47) (.t 49)),
sq 52 (.load (some 23) (.t 51)),
sq 15 (.zbox [dS ⟨#[]⟩,dS ⟨#[]⟩,dS ⟨#[]⟩,dI 0,dI 0,dI 0,dI 0,dB false,dI 0,dN,dN,dN,dN,dI 0,dI 0,dS ⟨#[]⟩,dN,dN,dI 0,dI 0,dS ⟨#[]⟩,dN,dN]),
su (.store 23 (.t 15) (.t 52))])
 (.regd [sq 53 (.mv (.t 11)),
sq 54 (.fieldA 0 (.t 15)),
sd 55 (.load (some 13) (.t 54)) [1],
zn 56 (.call 24 [(.t 55)]) [1,2] [1,2],
sq 57 (.fieldA 0 (.t 4)),
sd 58 (.load (some 3) (.t 57)) [4],
sq 59 (.load (some 23) (.t 15)),
zl 60 (.call 16 [(.t 58),(.t 59)]) [1,2,3,4,5,6] [],
⟨none,none,.mset 1 (.t 53) (.t 56) (.t 60),[0,1,2,3,4,5,6,7],(.lone [])⟩])))
 (.reg [sq 61 (.bin .add (.t 49) (kI 1)),
sq 49 (.mv (.t 61))]))))))))
 (.seq (.reg [sq 16 (.mv kN)])
 (.seq (.seq (.reg [sq 62 (.fieldA 5 (.t 3)),
sq 63 (.load none (.t 62)),
sq 64 (.len (.t 63)),
sq 65 (.mv (kI 0))])
 (.sem (.block 2 (.loop (.seq (.reg [sq 66 (.bin .lss (.t 65) (.t 64))])
 (.seq (.cond (.t 66)
 .skip
 (.exit 2))
 (.seq (.sem (.block 3 (.seq (.reg [sq 67 (.indexA 25 (.t 63) (.t 65)),
sq 68 (.load (some 25) (.t 67)),
sq 18 (.zbox [dI 0,dI 0,dS ⟨#[]⟩,dS ⟨#[]⟩,dS ⟨#[]⟩,dI 0,dI 0,dI 0,dI 0,dB false,dI 0,dN,dN,dN,dN,dI 0,dI 0,dS ⟨#[]⟩,dN,dN,dI 0,dI 0,dS ⟨#[]⟩,dN,dN]),
su (.store 25 (.t 18) (.t 68))])
 (.seq (.seq (.reg [sq 69 (.fieldA 0 (.t 18)),
sq 70 (.load none (.t 69)),
sq 71 (.fieldA 3 (.t 4)),
sq 72 (.load none (.t 71)),
sq 73 (.bin .leq (.t 70) (.t 72))])
 (.cond (.t 73)
 (.exit 3)
 .skip))
 (.seq (.reg [sq 74 (.fieldA 2 (.t 18)),
sq 75 (.fieldA 0 (.t 74)),
sq 76 (.load (some 13) (.t 75)),
sq 77 (.call 24 [(.t 76)]),
sq 19 (.mv (.t 77))])
 (.seq (.reg [sq 78 (.fieldA 0 (.t 4)),
sq 79 (.load (some 3) (.t 78)),
sq 80 (.load (some 25) (.t 18)),
sq 81 (.mv (.t 11)),
sq 82 (.mv (.t 19)),
sq 83 (.mget 1 false (.c (dB false)) (.t 81) (.t 82)),
sq 84 (.call 37 [(.t 79),(.t 80),(.t 83)]),
sq 20 (.mv (.t 84))])
 (.seq (.sem (.reg [sq 85 (.mv (.t 11)),
sq 86 (.mv (.t 19)),
sq 87 (.mv (.t 20)),
sq 88 (.bin .eql (.t 87) (kI 1)),
sq 89 (.mv (.t 88)),
zg 90 89 false (.mv (.t 20)),
zg 91 89 false (.bin .eql (.t 90) (kI 2)),
sq 92 (.pick (.t 89) (kB true) (.t 91)),
su (.mset 1 (.t 85) (.t 86) (.t 92))]))
 (.seq (.seq (.reg [sq 93 (.mv (.t 20)),
sq 94 (.bin .eql (.t 93) (kI 0))])
 (.cond (.t 94)
 (.exit 3)
 .skip))
 (.seq (.regd [sq 95 (.mv (.t 16)),
sq 96 (.mv (.t 20)),
sq 97 (.fieldA 0 (.t 18)),
sd 98 (.load none (.t 97)) [2],
sq 99 (.fieldA 2 (.t 18)),
sd 100 (.load (some 23) (.t 99)) [4],
zl 101 (.call 38 [(.t 100)]) [4,5] [18,97],
zl 102 (.build [dI 0,dI 0,dS ⟨#[]⟩,dS ⟨#[]⟩,dS ⟨#[]⟩,dI 0,dI 0,dI 0,dI 0,dB false,dI 0,dN,dN,dN,dN,dI 0,dI 0,dS ⟨#[]⟩,dN,dN,dI 0,dI 0,dS ⟨#[]⟩,dN,dN] [(0,1,(.t 96)),(1,1,(.t 98)),(2,23,(.t 101))]) [1,2,3,4,5,6] [],
zl 103 (.bslice 25 [(.t 102)]) [1,2,3,4,5,6,7] [],
zl 104 (.app 25 368 (.t 95) (.t 103)) [0,1,2,3,4,5,6,7,8] [],
sd 16 (.mv (.t 104)) [0,1,2,3,4,5,6,7,8,9]])
 (.seq (.reg [sq 105 (.fieldA 0 (.t 18)),
sq 106 (.load none (.t 105)),
sq 107 (.fieldA 3 (.t 9)),
⟨none,none,.store 1 (.t 107) (.t 106),[],(.lone [18,105,9])⟩])
 (.seq (.reg [sq 108 (.mv (.t 16)),
sq 109 (.len (.t 108)),
sq 110 (.mv (.t 2)),
sq 111 (.bin .eql (.t 109) (.t 110))])
 (.cond (.t 111)
 (.seq (.reg [sq 112 (.load (some 4) (.t 9)),
sq 113 (.mv (.t 16)),
su (.store 4 (.t 6) (.t 112)),
sq 7 (.mv (.t 113)),
sq 8 (.mv (kI 0))])
 .ret)
 .skip))))))))))))
 (.reg [sq 114 (.bin .add (.t 65) (kI 1)),
sq 65 (.mv (.t 114))]))))))))
 (.seq (.sem (.seq (.reg [sq 115 (.fieldA 0 (.t 3)),
sq 116 (.load none (.t 115)),
sq 117 (.fieldA 3 (.t 9)),
sq 118 (.load none (.t 117)),
sq 119 (.bin .gtr (.t 116) (.t 118))])
 (.cond (.t 119)
 (.seq (.reg [sq 120 (.mv (.t 16)),
sq 121 (.fieldA 0 (.t 3)),
sq 122 (.load none (.t 121)),
sq 123 (.build [dI 0,dI 0,dS ⟨#[]⟩,dS ⟨#[]⟩,dS ⟨#[]⟩,dI 0,dI 0,dI 0,dI 0,dB false,dI 0,dN,dN,dN,dN,dI 0,dI 0,dS ⟨#[]⟩,dN,dN,dI 0,dI 0,dS ⟨#[]⟩,dN,dN] [(0,1,(kI 4)),(1,1,(.t 122))]),
sq 124 (.bslice 25 [(.t 123)]),
sq 125 (.app 25 368 (.t 120) (.t 124)),
sq 16 (.mv (.t 125))])
 (.reg [sq 126 (.fieldA 0 (.t 3)),
sq 127 (.load none (.t 126)),
sq 128 (.fieldA 3 (.t 9)),
⟨none,none,.store 1 (.t 128) (.t 127),[],(.lone [3,126,9])⟩]))
 .skip)))
 (.seq (.reg [sq 129 (.load (some 4) (.t 9)),
sq 130 (.mv (.t 16)),
su (.store 4 (.t 6) (.t 129)),
sq 7 (.mv (.t 130)),
sq 8 (.mv (kI 0))])
 .ret)))))))))))⟩
theorem a14_ok:afn Tryz.prog 14=some a14.er:=by kernel_rfl
theorem F14_ok{x0 x1 x2 r}(h:F14 x0 x1 x2=some r):CallD Tryz.prog 14 [.agg [dI x0.Rev,dI x0.Floor,dI x0.NextUid,dM (x0.Base.map eObject),dM (x0.Objects.map eObject),dM (x0.History.map eChange)],.agg [dS x1.Filter.Kind,dS x1.Filter.Namespace,dM (x1.Filter.Selector.map eRequirement),dI x1.Rev],.c (dI x2)] [] (tupV [.agg [dS x1.Filter.Kind,dS x1.Filter.Namespace,.own 0 0 0 (r.1.length) none,dI r.2.1],.c (.own 1 0 0 (r.2.2.1.length) none),.c (dI r.2.2.2)]) [some (.arr 0 3 (r.1.map eRequirement)),some (.arr 0 25 (r.2.2.1.map eEvent))]:=by
 refine callS a14_ok (by simp[a14]) ?_
 rw[F14]at h
 simp only[a14,VW.down,Nat.reduceEqDiff,reduceCtorEq,Nat.reduceAdd,Nat.reduceLeDiff,Nat.reduceLT,Nat.reduceBEq,Nat.reduceSub,EE.down]
 obtain⟨t1,ht1,h⟩:=bi h
 refine cN [] (F35_ok ht1) trivial (ww ?_)
 refine kD_new (by simp[wrs,allW,hset]) (ww ?_)
 refine kD_new (by simp[wrs,allW,hset]) (ww ?_)
 obtain⟨t2,ht2,h⟩:=bi h
 refine cN [] (F34_ok ht2) trivial (ww ?_)
 refine condSh h (fun c3 h=>?_) (fun c3 h=>?_)
 ·refine ww ?_
  cases h
  exact eF [some 3,none]
 refine ww ?_
 refine t_mkmap1 (κ:=ByteArray) (α:=Bool) (enc:=(fun x=> .v (.bool x))) Value.string (ww ?_)
 obtain⟨t4,ht4,h⟩:=bi h
 refine cN [] (F21_ok ht4) trivial (ww ?_)
 obtain⟨o5,ho,h⟩:=bi h
 refine cutS (fun s=>s=⟨[(2,.one (.c (dI ((if x2<1 then 1 else x2))))),(3,.one (.c (.pt 0 0))),(4,.one (.c (.pt 1 0))),(6,.one (.c (.pt 2 0))),(9,.one (.c (.pt 3 0))),(11,.one (.c (.mref 5)))],[some (.box [dI x0.Rev,dI x0.Floor,dI x0.NextUid,dM (x0.Base.map eObject),dM (x0.Objects.map eObject),dM (x0.History.map eChange)]),some (.box [dS x1.Filter.Kind,dS x1.Filter.Namespace,dM (x1.Filter.Selector.map eRequirement),dI x1.Rev]),some (.box [dS ((⟨#[]⟩:ByteArray)),dS ((⟨#[]⟩:ByteArray)),dN,dI 0]),some (.box [dS x1.Filter.Kind,dS x1.Filter.Namespace,.own 4 0 0 (t1.length) none,dI x1.Rev]),some (.arr 0 3 (t1.map eRequirement)),some (.map (eM1 Value.string (fun x=> .v (.bool x)) o5))]⟩) ?_ ?_
 ·have h:=ho
  clear ho
  obtain⟨_,hk,h⟩:=bi h
  have hk:=ck_some hk
  refine ww ?_
  refine bL (fun j s=>∃(o5_1:Nat) (o5_0:List (ByteArray×Bool)),(o5_1≤t4.1.length∧j=t4.1.length-o5_1)∧s=⟨[(2,.one (.c (dI ((if x2<1 then 1 else x2))))),(3,.one (.c (.pt 0 0))),(4,.one (.c (.pt 1 0))),(6,.one (.c (.pt 2 0))),(9,.one (.c (.pt 3 0))),(11,.one (.c (.mref 5))),(47,.one (.c (.own 6 0 0 (t4.1.length) none))),(48,.one (.c (dI ((t4.1.length:Int))))),(49,.one (.c (dI ((o5_1:Int)))))],[some (.box [dI x0.Rev,dI x0.Floor,dI x0.NextUid,dM (x0.Base.map eObject),dM (x0.Objects.map eObject),dM (x0.History.map eChange)]),some (.box [dS x1.Filter.Kind,dS x1.Filter.Namespace,dM (x1.Filter.Selector.map eRequirement),dI x1.Rev]),some (.box [dS ((⟨#[]⟩:ByteArray)),dS ((⟨#[]⟩:ByteArray)),dN,dI 0]),some (.box [dS x1.Filter.Kind,dS x1.Filter.Namespace,.own 4 0 0 (t1.length) none,dI x1.Rev]),some (.arr 0 3 (t1.map eRequirement)),some (.map (eM1 Value.string (fun x=> .v (.bool x)) o5_0)),some (.arr 0 23 (t4.1.map eObject))]⟩∧F14_l5 t4 x1 (t4.1.drop o5_1) o5_1 o5_0=some o5) (t4.1.length-0) [some 0,some 1,some 2,some 4,some 3,some 5,some 6] ⟨0,[],⟨hk.1,rfl⟩,rfl,h⟩ ?_
  rintro _ _ ⟨o5_1,o5_0,⟨hi,rfl⟩,rfl,h⟩
  refine ww ?_
  refine condS (fun c6=>?_) (fun c6=>?_)
  ·obtain⟨xo5,hxo5,hd⟩:=countY (show(o5_1:Int)<(t4.1.length:Int)from c6)
   rw[hd,F14_l5]at h
   refine ww ?_
   obtain⟨y7,hy7,h⟩:=bi h
   refine t_idxO (enc:=eObject) (xs:=t4.1) rfl rfl rfl (by first|rfl|simp only[List.length_set]|exact(clrL_len (slI_len (by assumption))).symm) hy7 (ww ?_)
   refine LdRow.rd (rdI_some hy7).2.1 (ww ?_)
   obtain⟨t8,ht8,h⟩:=bi h
   refine cN [] (F24_ok ht8) trivial (ww ?_)
   obtain⟨t9,ht9,h⟩:=bi h
   refine cN [] (F16_ok ht9) trivial (ww ?_)
   refine t_mset1 (enc:=(fun x=> .v (.bool x))) (l:=o5_0) (x:=t9) kkS rfl rfl rfl rfl (ww ?_)
   rw[wrapN (by omega)]
   exact eL' (t4.1.length-(o5_1+1)) [some 0,some 1,some 2,some 3,some 4,some 5,some 6] ⟨o5_1+1,(putM t8 t9 o5_0),⟨by omega,rfl⟩,rfl,h⟩ (by omega)
  rw[countN (show¬((o5_1:Int)<(t4.1.length:Int))from c6),F14_l5]at h
  refine ww ?_
  cases h
  exact eM [some 0,some 1,some 2,some 3,some 4,some 5] rfl
 rintro _ rfl
 clear ho
 refine ww ?_
 obtain⟨o11,ho,h⟩:=bi h
 refine cutS (fun s=>∃po11,o11=Sum.inr po11∧s=⟨[(3,.one (.c (.pt 0 0))),(6,.one (.c (.pt 1 0))),(9,.one (.c (.pt 2 0))),(16,.one (.c (.own 4 0 0 (po11.2.length) none)))],[some (.box [dI x0.Rev,dI x0.Floor,dI x0.NextUid,dM (x0.Base.map eObject),dM (x0.Objects.map eObject),dM (x0.History.map eChange)]),some (.box [dS ((⟨#[]⟩:ByteArray)),dS ((⟨#[]⟩:ByteArray)),dN,dI 0]),some (.box [dS x1.Filter.Kind,dS x1.Filter.Namespace,.own 3 0 0 (t1.length) none,dI po11.1]),some (.arr 0 3 (t1.map eRequirement)),some (.arr 0 25 (po11.2.map eEvent))]⟩) ?_ ?_
 ·have h0o11:=h
  have h:=ho
  clear ho
  obtain⟨_,hk,h⟩:=bi h
  have hk:=ck_some hk
  refine ww ?_
  refine bL (fun j s=>∃(o11_3:Nat) (o11_0:Int) (o11_1:List (ByteArray×Bool)) (o11_2:List Event),(o11_3≤x0.History.length∧j=x0.History.length-o11_3)∧s=⟨[(2,.one (.c (dI ((if x2<1 then 1 else x2))))),(3,.one (.c (.pt 0 0))),(4,.one (.c (.pt 1 0))),(6,.one (.c (.pt 2 0))),(9,.one (.c (.pt 3 0))),(11,.one (.c (.mref 5))),(16,.one (.c (.own 6 0 0 (o11_2.length) none))),(63,.one (.c (dM (x0.History.map eChange)))),(64,.one (.c (dI ((x0.History.length:Int))))),(65,.one (.c (dI ((o11_3:Int)))))],[some (.box [dI x0.Rev,dI x0.Floor,dI x0.NextUid,dM (x0.Base.map eObject),dM (x0.Objects.map eObject),dM (x0.History.map eChange)]),some (.box [dS x1.Filter.Kind,dS x1.Filter.Namespace,dM (x1.Filter.Selector.map eRequirement),dI x1.Rev]),some (.box [dS ((⟨#[]⟩:ByteArray)),dS ((⟨#[]⟩:ByteArray)),dN,dI 0]),some (.box [dS x1.Filter.Kind,dS x1.Filter.Namespace,.own 4 0 0 (t1.length) none,dI o11_0]),some (.arr 0 3 (t1.map eRequirement)),some (.map (eM1 Value.string (fun x=> .v (.bool x)) o11_1)),some (.arr 0 25 (o11_2.map eEvent))]⟩∧F14_l11 t1 x1 x2 (x0.History.drop o11_3) o11_3 o11_0 o11_1 o11_2=some o11) (x0.History.length-0) [some 0,some 1,some 2,some 3,some 4,some 5,none] ⟨0,x1.Rev,o5,[],⟨hk.1,rfl⟩,rfl,h⟩ ?_
  rintro _ _ ⟨o11_3,o11_0,o11_1,o11_2,⟨hi,rfl⟩,rfl,h⟩
  refine ww ?_
  refine condS (fun c12=>?_) (fun c12=>?_)
  ·obtain⟨xo11,hxo11,hd⟩:=countY (show(o11_3:Int)<(x0.History.length:Int)from c12)
   rw[hd,F14_l11]at h
   refine ww ?_
   obtain⟨o13,ho,h⟩:=bi h
   refine cutS (fun s=>∃po13,o13=Sum.inr po13∧s=⟨[(2,.one (.c (dI ((if x2<1 then 1 else x2))))),(3,.one (.c (.pt 0 0))),(4,.one (.c (.pt 1 0))),(6,.one (.c (.pt 2 0))),(9,.one (.c (.pt 3 0))),(11,.one (.c (.mref 5))),(16,.one (.c (.own 6 0 0 (po13.2.2.length) none))),(63,.one (.c (dM (x0.History.map eChange)))),(64,.one (.c (dI ((x0.History.length:Int))))),(65,.one (.c (dI ((o11_3:Int)))))],[some (.box [dI x0.Rev,dI x0.Floor,dI x0.NextUid,dM (x0.Base.map eObject),dM (x0.Objects.map eObject),dM (x0.History.map eChange)]),some (.box [dS x1.Filter.Kind,dS x1.Filter.Namespace,dM (x1.Filter.Selector.map eRequirement),dI x1.Rev]),some (.box [dS ((⟨#[]⟩:ByteArray)),dS ((⟨#[]⟩:ByteArray)),dN,dI 0]),some (.box [dS x1.Filter.Kind,dS x1.Filter.Namespace,.own 4 0 0 (t1.length) none,dI po13.1]),some (.arr 0 3 (t1.map eRequirement)),some (.map (eM1 Value.string (fun x=> .v (.bool x)) po13.2.1)),some (.arr 0 25 (po13.2.2.map eEvent))]⟩) ?_ ?_
   ·have h0o13:=h
    have h:=ho
    clear ho
    refine ww ?_
    refine t_idxF (enc:=eChange) (xs:=x0.History) rfl rfl hxo11 rfl (ww ?_)
    refine condSh h (fun c14 h=>?_) (fun c14 h=>?_)
    ·refine ww ?_
     cases h
     exact eM [some 0,some 1,some 2,some 3,some 4,some 5,some 6] ⟨_,rfl,rfl⟩
    refine ww ?_
    obtain⟨t15,ht15,h⟩:=bi h
    refine cN [] (F24_ok ht15) trivial (ww ?_)
    refine t_mget1 (enc:=(fun x=> .v (.bool x))) (l:=o11_1) (z:=false) kkS rfl rfl rfl rfl (ww ?_)
    obtain⟨t16,ht16,h⟩:=bi h
    refine cN [] (F37_ok ht16) trivial (ww ?_)
    obtain⟨o17,ho,h⟩:=bi h
    refine cutS (fun s=>s=⟨[(2,.one (.c (dI ((if x2<1 then 1 else x2))))),(3,.one (.c (.pt 0 0))),(4,.one (.c (.pt 1 0))),(6,.one (.c (.pt 2 0))),(9,.one (.c (.pt 3 0))),(11,.one (.c (.mref 5))),(16,.one (.c (.own 6 0 0 (o11_2.length) none))),(18,.one (.c (.pt 7 0))),(20,.one (.c (dI t16))),(63,.one (.c (dM (x0.History.map eChange)))),(64,.one (.c (dI ((x0.History.length:Int))))),(65,.one (.c (dI ((o11_3:Int)))))],[some (.box [dI x0.Rev,dI x0.Floor,dI x0.NextUid,dM (x0.Base.map eObject),dM (x0.Objects.map eObject),dM (x0.History.map eChange)]),some (.box [dS x1.Filter.Kind,dS x1.Filter.Namespace,dM (x1.Filter.Selector.map eRequirement),dI x1.Rev]),some (.box [dS ((⟨#[]⟩:ByteArray)),dS ((⟨#[]⟩:ByteArray)),dN,dI 0]),some (.box [dS x1.Filter.Kind,dS x1.Filter.Namespace,.own 4 0 0 (t1.length) none,dI o11_0]),some (.arr 0 3 (t1.map eRequirement)),some (.map (eM1 Value.string (fun x=> .v (.bool x)) o17)),some (.arr 0 25 (o11_2.map eEvent)),some (.box [dI xo11.Rev,dI xo11.Kind,dS xo11.Object.Meta.Kind,dS xo11.Object.Meta.Namespace,dS xo11.Object.Meta.Name,dI xo11.Object.Meta.Uid,dI xo11.Object.Meta.Version,dI xo11.Object.Meta.Generation,dI xo11.Object.Meta.Created,dB xo11.Object.Meta.Deleting,dI xo11.Object.Meta.DeleteAt,dM (xo11.Object.Meta.Labels.map eLabel),dM (xo11.Object.Meta.Owners.map eOwner),dM (xo11.Object.Meta.Finalizers.map eS),dM (xo11.Object.Meta.Managers.map eManager),dI xo11.Object.Spec.Kind,dI xo11.Object.Spec.N,dS xo11.Object.Spec.S,dM (xo11.Object.Spec.List_.map eTValue),dM (xo11.Object.Spec.Fields.map eTField),dI xo11.Object.Status.Kind,dI xo11.Object.Status.N,dS xo11.Object.Status.S,dM (xo11.Object.Status.List_.map eTValue),dM (xo11.Object.Status.Fields.map eTField)])]⟩) ?_ ?_
    ·have h:=ho
     clear ho
     refine ww ?_
     refine guardSh h (fun g18 h=>?_) (fun g18 h=>?_)
     ·refine ww ?_
      refine t_mset1 (enc:=(fun x=> .v (.bool x))) (l:=o11_1) (x:=true) kkS rfl rfl rfl rfl (ww ?_)
      cases h
      exact eM [some 0,some 1,some 2,some 3,some 4,some 5,some 6,some 7] rfl
     refine ww ?_
     refine t_mset1 (enc:=(fun x=> .v (.bool x))) (l:=o11_1) (x:=decide (t16=2)) kkS rfl rfl rfl rfl (ww ?_)
     cases h
     exact eM [some 0,some 1,some 2,some 3,some 4,some 5,some 6,some 7] rfl
    rintro _ rfl
    clear ho
    refine ww ?_
    refine condSh h (fun c19 h=>?_) (fun c19 h=>?_)
    ·refine ww ?_
     cases h
     exact eM [some 0,some 1,some 2,some 3,some 4,some 5,some 6] ⟨_,rfl,rfl⟩
    refine ww ?_
    obtain⟨t20,ht20,h⟩:=bi h
    refine cN [] (F38_ok ht20) trivial (ww ?_)
    refine t_bslice (enc:=eEvent) (ys:=[(⟨t16,xo11.Rev,(⟨(⟨xo11.Object.Meta.Kind,xo11.Object.Meta.Namespace,xo11.Object.Meta.Name,xo11.Object.Meta.Uid,xo11.Object.Meta.Version,xo11.Object.Meta.Generation,xo11.Object.Meta.Created,xo11.Object.Meta.Deleting,xo11.Object.Meta.DeleteAt,t20.1,t20.2.1,t20.2.2.1,t20.2.2.2.1⟩:Meta),(⟨t20.2.2.2.2.1,t20.2.2.2.2.2.1,t20.2.2.2.2.2.2.1,t20.2.2.2.2.2.2.2.1,t20.2.2.2.2.2.2.2.2.1⟩:TValue),(⟨t20.2.2.2.2.2.2.2.2.2.1,t20.2.2.2.2.2.2.2.2.2.2.1,t20.2.2.2.2.2.2.2.2.2.2.2.1,t20.2.2.2.2.2.2.2.2.2.2.2.2.1,t20.2.2.2.2.2.2.2.2.2.2.2.2.2⟩:TValue)⟩:Object)⟩:Event)]) rfl rfl (by simp[A1.cells]) (by first|rfl|(simp only[List.drop_zero,take_mapL];rfl)|(simp only[lit,List.map_cons,List.map_nil,List.drop_zero,take_mapL,EE.down];done)|(simp only[lit,List.map_cons,List.map_nil,List.drop_zero,take_mapL,EE.down];rfl)) (ww ?_)
    obtain⟨a21,ha21,h⟩:=bi h
    refine t_app (enc:=eEvent) (xs:=o11_2) rfl rfl (by first|rfl|simp only[List.length_set]|exact(clrL_len (slI_len (by assumption))).symm) rfl (rows_full (enc:=eEvent) (by first|rfl|simp only[List.length_set]|exact(clrL_len (slI_len (by assumption))).symm) rfl) ha21 (ww ?_)
    refine condSh h (fun c22 h=>?_) (fun c22 h=>?_)
    ·refine ww ?_
     obtain⟨fh0o13,hfh0o13,rfl⟩:=Option.map_eq_some_iff.1 h
     have h:=hfh0o13.trans h0o13
     obtain⟨fh0o11,hfh0o11,rfl⟩:=Option.map_eq_some_iff.1 h
     have h:=hfh0o11.trans h0o11
     cases h
     exact eF [some 4,some 6]
    refine ww ?_
    cases h
    exact eM [some 0,some 1,some 2,some 3,some 4,some 5,some 6] ⟨_,rfl,rfl⟩
   rintro _ ⟨po13,rfl,rfl⟩
   clear ho
   dsimp only at h
   refine ww ?_
   rw[wrapN (by omega)]
   exact eL' (x0.History.length-(o11_3+1)) [some 0,some 1,some 2,some 3,some 4,some 5,some 6] ⟨o11_3+1,po13.1,po13.2.1,po13.2.2,⟨by omega,rfl⟩,rfl,h⟩ (by omega)
  rw[countN (show¬((o11_3:Int)<(x0.History.length:Int))from c12),F14_l11]at h
  refine ww ?_
  cases h
  exact eM [some 0,some 2,some 3,some 4,some 6] ⟨_,rfl,rfl⟩
 rintro _ ⟨po11,rfl,rfl⟩
 clear ho
 dsimp only at h
 refine ww ?_
 obtain⟨o24,ho,h⟩:=bi h
 refine cutS (fun s=>s=⟨[(6,.one (.c (.pt 0 0))),(9,.one (.c (.pt 1 0))),(16,.one (.c (.own 3 0 0 (o24.2.length) none)))],[some (.box [dS ((⟨#[]⟩:ByteArray)),dS ((⟨#[]⟩:ByteArray)),dN,dI 0]),some (.box [dS x1.Filter.Kind,dS x1.Filter.Namespace,.own 2 0 0 (t1.length) none,dI o24.1]),some (.arr 0 3 (t1.map eRequirement)),some (.arr 0 25 (o24.2.map eEvent))]⟩) ?_ ?_
 ·have h:=ho
  clear ho
  refine ww ?_
  refine condSh h (fun c25 h=>?_) (fun c25 h=>?_)
  ·refine ww ?_
   refine t_bslice (enc:=eEvent) (ys:=[(⟨4,x0.Rev,(⟨(⟨(⟨#[]⟩:ByteArray),(⟨#[]⟩:ByteArray),(⟨#[]⟩:ByteArray),0,0,0,0,false,0,[],[],[],[]⟩:Meta),(⟨0,0,(⟨#[]⟩:ByteArray),[],[]⟩:TValue),(⟨0,0,(⟨#[]⟩:ByteArray),[],[]⟩:TValue)⟩:Object)⟩:Event)]) rfl rfl (by simp[A1.cells]) (by first|rfl|(simp only[List.drop_zero,take_mapL];rfl)|(simp only[lit,List.map_cons,List.map_nil,List.drop_zero,take_mapL,EE.down];done)|(simp only[lit,List.map_cons,List.map_nil,List.drop_zero,take_mapL,EE.down];rfl)) (ww ?_)
   obtain⟨a26,ha26,h⟩:=bi h
   refine t_app (enc:=eEvent) (xs:=po11.2) rfl rfl (by first|rfl|simp only[List.length_set]|exact(clrL_len (slI_len (by assumption))).symm) rfl (rows_full (enc:=eEvent) (by first|rfl|simp only[List.length_set]|exact(clrL_len (slI_len (by assumption))).symm) rfl) ha26 (ww ?_)
   cases h
   exact eM [some 1,some 2,some 3,some 4] rfl
  refine ww ?_
  cases h
  exact eM [some 1,some 2,some 3,some 4] rfl
 rintro _ rfl
 clear ho
 refine ww ?_
 cases h
 exact eF [some 2,some 3]
end Go.Proofs.YtondgcmdhkhkkaaGreat
