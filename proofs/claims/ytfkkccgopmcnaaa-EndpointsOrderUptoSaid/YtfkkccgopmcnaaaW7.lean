/- Each Go function as a function over typed data, and its walk. -/
import Derived.Test.YtfkkccgopmcnaaaW0
import Derived.Test.YtfkkccgopmcnaaaW1
import Derived.Test.YtfkkccgopmcnaaaW2
import Derived.Test.YtfkkccgopmcnaaaW3
import Derived.Test.YtfkkccgopmcnaaaW4
import Derived.Test.YtfkkccgopmcnaaaW5
namespace Go.Proofs.Ytfkkccgopmcnaaa
open Go Go.Fw Go.Shelf
set_option maxRecDepth 100000
set_option maxHeartbeats 4000000
set_option linter.unusedSimpArgs false
set_option linter.unusedVariables false
def F52(x0:PodStatus):Option (((List TField))):=(F64 x0.Address).bind fun t1=>(F62 ((⟨#[97,100,100,114,101,115,115]⟩:ByteArray)) ((⟨2,x0.Address,(⟨#[]⟩:ByteArray),[],[]⟩:TValue))).bind fun t2=>(F71 x0.Containers).bind fun t3=>(F62 ((⟨#[99,111,110,116,97,105,110,101,114,115]⟩:ByteArray)) ((⟨4,0,(⟨#[]⟩:ByteArray),t3,[]⟩:TValue))).bind fun t4=>(F64 x0.Finished).bind fun t5=>(F62 ((⟨#[102,105,110,105,115,104,101,100]⟩:ByteArray)) ((⟨2,x0.Finished,(⟨#[]⟩:ByteArray),[],[]⟩:TValue))).bind fun t6=>(F65 x0.Nominated).bind fun t7=>(F62 ((⟨#[110,111,109,105,110,97,116,101,100]⟩:ByteArray)) ((⟨3,0,x0.Nominated,[],[]⟩:TValue))).bind fun t8=>(F64 x0.Phase).bind fun t9=>(F62 ((⟨#[112,104,97,115,101]⟩:ByteArray)) ((⟨2,x0.Phase,(⟨#[]⟩:ByteArray),[],[]⟩:TValue))).bind fun t10=>(F72 x0.Ready).bind fun t11=>(F62 ((⟨#[114,101,97,100,121]⟩:ByteArray)) ((⟨1,t11,(⟨#[]⟩:ByteArray),[],[]⟩:TValue))).bind fun t12=>(F64 x0.ReadySince).bind fun t13=>(F62 ((⟨#[114,101,97,100,121,83,105,110,99,101]⟩:ByteArray)) ((⟨2,x0.ReadySince,(⟨#[]⟩:ByteArray),[],[]⟩:TValue))).bind fun t14=>(F65 x0.Reason).bind fun t15=>(F62 ((⟨#[114,101,97,115,111,110]⟩:ByteArray)) ((⟨3,0,x0.Reason,[],[]⟩:TValue))).bind fun t16=>(F64 x0.Started).bind fun t17=>(F62 ((⟨#[115,116,97,114,116,101,100]⟩:ByteArray)) ((⟨2,x0.Started,(⟨#[]⟩:ByteArray),[],[]⟩:TValue))).bind fun t18=>(F61 ((lit [(⟨((⟨#[97,100,100,114,101,115,115]⟩:ByteArray)),(⟨(2:Int),x0.Address,((⟨#[]⟩:ByteArray)),([]),([])⟩:TValue)⟩:TField),(⟨((⟨#[99,111,110,116,97,105,110,101,114,115]⟩:ByteArray)),(⟨(4:Int),(0:Int),((⟨#[]⟩:ByteArray)),t3,([])⟩:TValue)⟩:TField),(⟨((⟨#[102,105,110,105,115,104,101,100]⟩:ByteArray)),(⟨(2:Int),x0.Finished,((⟨#[]⟩:ByteArray)),([]),([])⟩:TValue)⟩:TField),(⟨((⟨#[110,111,109,105,110,97,116,101,100]⟩:ByteArray)),(⟨(3:Int),(0:Int),x0.Nominated,([]),([])⟩:TValue)⟩:TField),(⟨((⟨#[112,104,97,115,101]⟩:ByteArray)),(⟨(2:Int),x0.Phase,((⟨#[]⟩:ByteArray)),([]),([])⟩:TValue)⟩:TField),(⟨((⟨#[114,101,97,100,121]⟩:ByteArray)),(⟨(1:Int),t11,((⟨#[]⟩:ByteArray)),([]),([])⟩:TValue)⟩:TField),(⟨((⟨#[114,101,97,100,121,83,105,110,99,101]⟩:ByteArray)),(⟨(2:Int),x0.ReadySince,((⟨#[]⟩:ByteArray)),([]),([])⟩:TValue)⟩:TField),(⟨((⟨#[114,101,97,115,111,110]⟩:ByteArray)),(⟨(3:Int),(0:Int),x0.Reason,([]),([])⟩:TValue)⟩:TField),(⟨((⟨#[115,116,97,114,116,101,100]⟩:ByteArray)),(⟨(2:Int),x0.Started,((⟨#[]⟩:ByteArray)),([]),([])⟩:TValue)⟩:TField)]))).bind fun t19=>some (((lit [(⟨((⟨#[97,100,100,114,101,115,115]⟩:ByteArray)),(⟨(2:Int),x0.Address,((⟨#[]⟩:ByteArray)),([]),([])⟩:TValue)⟩:TField),(⟨((⟨#[99,111,110,116,97,105,110,101,114,115]⟩:ByteArray)),(⟨(4:Int),(0:Int),((⟨#[]⟩:ByteArray)),t3,([])⟩:TValue)⟩:TField),(⟨((⟨#[102,105,110,105,115,104,101,100]⟩:ByteArray)),(⟨(2:Int),x0.Finished,((⟨#[]⟩:ByteArray)),([]),([])⟩:TValue)⟩:TField),(⟨((⟨#[110,111,109,105,110,97,116,101,100]⟩:ByteArray)),(⟨(3:Int),(0:Int),x0.Nominated,([]),([])⟩:TValue)⟩:TField),(⟨((⟨#[112,104,97,115,101]⟩:ByteArray)),(⟨(2:Int),x0.Phase,((⟨#[]⟩:ByteArray)),([]),([])⟩:TValue)⟩:TField),(⟨((⟨#[114,101,97,100,121]⟩:ByteArray)),(⟨(1:Int),t11,((⟨#[]⟩:ByteArray)),([]),([])⟩:TValue)⟩:TField),(⟨((⟨#[114,101,97,100,121,83,105,110,99,101]⟩:ByteArray)),(⟨(2:Int),x0.ReadySince,((⟨#[]⟩:ByteArray)),([]),([])⟩:TValue)⟩:TField),(⟨((⟨#[114,101,97,115,111,110]⟩:ByteArray)),(⟨(3:Int),(0:Int),x0.Reason,([]),([])⟩:TValue)⟩:TField),(⟨((⟨#[115,116,97,114,116,101,100]⟩:ByteArray)),(⟨(2:Int),x0.Started,((⟨#[]⟩:ByteArray)),([]),([])⟩:TValue)⟩:TField)])))
def a52:AFn:=⟨41,[(.cell 2 (some 5))],
 (.seq (.reg [sq 1 (.box (.t 0)),
sq 2 (.zbox [dI 0,dI 0,dS ⟨#[]⟩,dN,dN])])
 (.seq (.regd [sq 3 (.fieldA 6 (.t 1)),
sd 4 (.load none (.t 3)) [0],
zn 5 (.call 64 [(.t 4)]) [0,1] [0,1],
zn 6 (.call 62 [(kS ⟨#[97,100,100,114,101,115,115]⟩),(.t 5)]) [0,1,2] [0,1,2],
sq 7 (.fieldA 5 (.t 1)),
sd 8 (.load none (.t 7)) [4],
zn 9 (.call 71 [(.t 8)]) [0,1,2,3,4,5] [0,1,2,3,4,5],
zn 10 (.call 62 [(kS ⟨#[99,111,110,116,97,105,110,101,114,115]⟩),(.t 9)]) [0,1,2,3,4,5,6] [0,1,2,3,4,5,6],
sq 11 (.fieldA 4 (.t 1)),
sd 12 (.load none (.t 11)) [8],
zn 13 (.call 64 [(.t 12)]) [0,1,2,3,4,5,6,7,8,9] [0,1,2,3,4,5,6,7,8,9],
zn 14 (.call 62 [(kS ⟨#[102,105,110,105,115,104,101,100]⟩),(.t 13)]) [0,1,2,3,4,5,6,7,8,9,10] [0,1,2,3,4,5,6,7,8,9,10],
sq 15 (.fieldA 7 (.t 1)),
sd 16 (.load none (.t 15)) [12],
zn 17 (.call 65 [(.t 16)]) [0,1,2,3,4,5,6,7,8,9,10,11,12,13] [0,1,2,3,4,5,6,7,8,9,10,11,12,13],
zn 18 (.call 62 [(kS ⟨#[110,111,109,105,110,97,116,101,100]⟩),(.t 17)]) [0,1,2,3,4,5,6,7,8,9,10,11,12,13,14] [0,1,2,3,4,5,6,7,8,9,10,11,12,13,14],
sq 19 (.fieldA 0 (.t 1)),
sd 20 (.load none (.t 19)) [16],
zn 21 (.call 64 [(.t 20)]) [0,1,2,3,4,5,6,7,8,9,10,11,12,13,14,15,16,17] [0,1,2,3,4,5,6,7,8,9,10,11,12,13,14,15,16,17],
zn 22 (.call 62 [(kS ⟨#[112,104,97,115,101]⟩),(.t 21)]) [0,1,2,3,4,5,6,7,8,9,10,11,12,13,14,15,16,17,18] [0,1,2,3,4,5,6,7,8,9,10,11,12,13,14,15,16,17,18],
sq 23 (.fieldA 1 (.t 1)),
sd 24 (.load none (.t 23)) [20],
zn 25 (.call 72 [(.t 24)]) [0,1,2,3,4,5,6,7,8,9,10,11,12,13,14,15,16,17,18,19,20,21] [0,1,2,3,4,5,6,7,8,9,10,11,12,13,14,15,16,17,18,19,20,21],
zn 26 (.call 62 [(kS ⟨#[114,101,97,100,121]⟩),(.t 25)]) [0,1,2,3,4,5,6,7,8,9,10,11,12,13,14,15,16,17,18,19,20,21,22] [0,1,2,3,4,5,6,7,8,9,10,11,12,13,14,15,16,17,18,19,20,21,22],
sq 27 (.fieldA 2 (.t 1)),
sd 28 (.load none (.t 27)) [24],
zn 29 (.call 64 [(.t 28)]) [0,1,2,3,4,5,6,7,8,9,10,11,12,13,14,15,16,17,18,19,20,21,22,23,24,25] [0,1,2,3,4,5,6,7,8,9,10,11,12,13,14,15,16,17,18,19,20,21,22,23,24,25],
zn 30 (.call 62 [(kS ⟨#[114,101,97,100,121,83,105,110,99,101]⟩),(.t 29)]) [0,1,2,3,4,5,6,7,8,9,10,11,12,13,14,15,16,17,18,19,20,21,22,23,24,25,26] [0,1,2,3,4,5,6,7,8,9,10,11,12,13,14,15,16,17,18,19,20,21,22,23,24,25,26],
sq 31 (.fieldA 8 (.t 1)),
sd 32 (.load none (.t 31)) [28],
zn 33 (.call 65 [(.t 32)]) [0,1,2,3,4,5,6,7,8,9,10,11,12,13,14,15,16,17,18,19,20,21,22,23,24,25,26,27,28,29] [0,1,2,3,4,5,6,7,8,9,10,11,12,13,14,15,16,17,18,19,20,21,22,23,24,25,26,27,28,29],
zn 34 (.call 62 [(kS ⟨#[114,101,97,115,111,110]⟩),(.t 33)]) [0,1,2,3,4,5,6,7,8,9,10,11,12,13,14,15,16,17,18,19,20,21,22,23,24,25,26,27,28,29,30] [0,1,2,3,4,5,6,7,8,9,10,11,12,13,14,15,16,17,18,19,20,21,22,23,24,25,26,27,28,29,30],
sq 35 (.fieldA 3 (.t 1)),
sd 36 (.load none (.t 35)) [32],
zl 37 (.call 64 [(.t 36)]) [0,1,2,3,4,5,6,7,8,9,10,11,12,13,14,15,16,17,18,19,20,21,22,23,24,25,26,27,28,29,30,31,32,33] [],
zl 38 (.call 62 [(kS ⟨#[115,116,97,114,116,101,100]⟩),(.t 37)]) [0,1,2,3,4,5,6,7,8,9,10,11,12,13,14,15,16,17,18,19,20,21,22,23,24,25,26,27,28,29,30,31,32,33,34] [],
zl 39 (.bslice 6 [(.t 6),(.t 10),(.t 14),(.t 18),(.t 22),(.t 26),(.t 30),(.t 34),(.t 38)]) [0,1,2,3,4,5,6,7,8,9,10,11,12,13,14,15,16,17,18,19,20,21,22,23,24,25,26,27,28,29,30,31,32,33,34,35] [],
zl 40 (.call 61 [(.t 39)]) [0,1,2,3,4,5,6,7,8,9,10,11,12,13,14,15,16,17,18,19,20,21,22,23,24,25,26,27,28,29,30,31,32,33,34,35,36] [],
⟨none,none,.store 5 (.t 2) (.t 40),[0,1,2,3,4,5,6,7,8,9,10,11,12,13,14,15,16,17,18,19,20,21,22,23,24,25,26,27,28,29,30,31,32,33,34,35,36,37],(.lone [])⟩])
 .ret))⟩
theorem F52_ok{x0 r}(h:F52 x0=some r):CallD Try.prog 52 [.agg [dI x0.Phase,dB x0.Ready,dI x0.ReadySince,dI x0.Started,dI x0.Finished,dM (x0.Containers.map eContainerStatus),dI x0.Address,dS x0.Nominated,dS x0.Reason]] [] (tupV [.agg [dI 5,dI 0,dS ((⟨#[]⟩:ByteArray)),dM (([]:List TValue).map eTValue),dM (r.map eTField)]]) []:=by
 rw[F52]at h
 refine zc a52 (by kernel_rfl) rfl (ww ?_)
 obtain⟨t1,ht1,h⟩:=bi h
 refine cN [] (F64_ok ht1) trivial (ww ?_)
 obtain⟨t2,ht2,h⟩:=bi h
 refine cN [] (F62_ok ht2) trivial (ww ?_)
 obtain⟨t3,ht3,h⟩:=bi h
 refine cN [] (F71_ok ht3) trivial (ww ?_)
 obtain⟨t4,ht4,h⟩:=bi h
 refine cN [] (F62_ok ht4) trivial (ww ?_)
 obtain⟨t5,ht5,h⟩:=bi h
 refine cN [] (F64_ok ht5) trivial (ww ?_)
 obtain⟨t6,ht6,h⟩:=bi h
 refine cN [] (F62_ok ht6) trivial (ww ?_)
 obtain⟨t7,ht7,h⟩:=bi h
 refine cN [] (F65_ok ht7) trivial (ww ?_)
 obtain⟨t8,ht8,h⟩:=bi h
 refine cN [] (F62_ok ht8) trivial (ww ?_)
 obtain⟨t9,ht9,h⟩:=bi h
 refine cN [] (F64_ok ht9) trivial (ww ?_)
 obtain⟨t10,ht10,h⟩:=bi h
 refine cN [] (F62_ok ht10) trivial (ww ?_)
 obtain⟨t11,ht11,h⟩:=bi h
 refine cN [] (F72_ok ht11) trivial (ww ?_)
 obtain⟨t12,ht12,h⟩:=bi h
 refine cN [] (F62_ok ht12) trivial (ww ?_)
 obtain⟨t13,ht13,h⟩:=bi h
 refine cN [] (F64_ok ht13) trivial (ww ?_)
 obtain⟨t14,ht14,h⟩:=bi h
 refine cN [] (F62_ok ht14) trivial (ww ?_)
 obtain⟨t15,ht15,h⟩:=bi h
 refine cN [] (F65_ok ht15) trivial (ww ?_)
 obtain⟨t16,ht16,h⟩:=bi h
 refine cN [] (F62_ok ht16) trivial (ww ?_)
 obtain⟨t17,ht17,h⟩:=bi h
 refine cN [] (F64_ok ht17) trivial (ww ?_)
 obtain⟨t18,ht18,h⟩:=bi h
 refine cN [] (F62_ok ht18) trivial (ww ?_)
 refine t_bslice (enc:=eTField) (ys:=(lit [(⟨((⟨#[97,100,100,114,101,115,115]⟩:ByteArray)),(⟨(2:Int),x0.Address,((⟨#[]⟩:ByteArray)),([]),([])⟩:TValue)⟩:TField),(⟨((⟨#[99,111,110,116,97,105,110,101,114,115]⟩:ByteArray)),(⟨(4:Int),(0:Int),((⟨#[]⟩:ByteArray)),t3,([])⟩:TValue)⟩:TField),(⟨((⟨#[102,105,110,105,115,104,101,100]⟩:ByteArray)),(⟨(2:Int),x0.Finished,((⟨#[]⟩:ByteArray)),([]),([])⟩:TValue)⟩:TField),(⟨((⟨#[110,111,109,105,110,97,116,101,100]⟩:ByteArray)),(⟨(3:Int),(0:Int),x0.Nominated,([]),([])⟩:TValue)⟩:TField),(⟨((⟨#[112,104,97,115,101]⟩:ByteArray)),(⟨(2:Int),x0.Phase,((⟨#[]⟩:ByteArray)),([]),([])⟩:TValue)⟩:TField),(⟨((⟨#[114,101,97,100,121]⟩:ByteArray)),(⟨(1:Int),t11,((⟨#[]⟩:ByteArray)),([]),([])⟩:TValue)⟩:TField),(⟨((⟨#[114,101,97,100,121,83,105,110,99,101]⟩:ByteArray)),(⟨(2:Int),x0.ReadySince,((⟨#[]⟩:ByteArray)),([]),([])⟩:TValue)⟩:TField),(⟨((⟨#[114,101,97,115,111,110]⟩:ByteArray)),(⟨(3:Int),(0:Int),x0.Reason,([]),([])⟩:TValue)⟩:TField),(⟨((⟨#[115,116,97,114,116,101,100]⟩:ByteArray)),(⟨(2:Int),x0.Started,((⟨#[]⟩:ByteArray)),([]),([])⟩:TValue)⟩:TField)])) rfl rfl (by simp[A1.cells]) (by first|rfl|(simp only[List.drop_zero,take_mapL];rfl)|(simp only[lit,List.map_cons,List.map_nil,List.drop_zero,take_mapL,EE.down];done)|(simp only[lit,List.map_cons,List.map_nil,List.drop_zero,take_mapL,EE.down];rfl)) (ww ?_)
 obtain⟨t19,ht19,h⟩:=bi h
 refine callX_gen (as1:=[.c (dM (((lit [(⟨((⟨#[97,100,100,114,101,115,115]⟩:ByteArray)),(⟨(2:Int),x0.Address,((⟨#[]⟩:ByteArray)),([]),([])⟩:TValue)⟩:TField),(⟨((⟨#[99,111,110,116,97,105,110,101,114,115]⟩:ByteArray)),(⟨(4:Int),(0:Int),((⟨#[]⟩:ByteArray)),t3,([])⟩:TValue)⟩:TField),(⟨((⟨#[102,105,110,105,115,104,101,100]⟩:ByteArray)),(⟨(2:Int),x0.Finished,((⟨#[]⟩:ByteArray)),([]),([])⟩:TValue)⟩:TField),(⟨((⟨#[110,111,109,105,110,97,116,101,100]⟩:ByteArray)),(⟨(3:Int),(0:Int),x0.Nominated,([]),([])⟩:TValue)⟩:TField),(⟨((⟨#[112,104,97,115,101]⟩:ByteArray)),(⟨(2:Int),x0.Phase,((⟨#[]⟩:ByteArray)),([]),([])⟩:TValue)⟩:TField),(⟨((⟨#[114,101,97,100,121]⟩:ByteArray)),(⟨(1:Int),t11,((⟨#[]⟩:ByteArray)),([]),([])⟩:TValue)⟩:TField),(⟨((⟨#[114,101,97,100,121,83,105,110,99,101]⟩:ByteArray)),(⟨(2:Int),x0.ReadySince,((⟨#[]⟩:ByteArray)),([]),([])⟩:TValue)⟩:TField),(⟨((⟨#[114,101,97,115,111,110]⟩:ByteArray)),(⟨(3:Int),(0:Int),x0.Reason,([]),([])⟩:TValue)⟩:TField),(⟨((⟨#[115,116,97,114,116,101,100]⟩:ByteArray)),(⟨(2:Int),x0.Started,((⟨#[]⟩:ByteArray)),([]),([])⟩:TValue)⟩:TField)])).map eTField))]) [(2,.arr 1 6 [])] [some 0,some 1,none] [] (F61_ok ht19) ⟨?_,rfl,?_⟩ ?_ ?_ ?_ ?_ ?_ ?_ ?_ ?_
 ·simp only[ZZ.down,Nat.reduceEqDiff,reduceCtorEq,Nat.reduceAdd,Nat.reduceLeDiff,Nat.reduceLT,Nat.reduceBNe,EE.down]
 ·simp only[ZZ.down,Nat.reduceEqDiff,reduceCtorEq,Nat.reduceAdd,Nat.reduceLeDiff,Nat.reduceLT,Nat.reduceBNe,EE.down]
 ·simp only[ZZ.down,Nat.reduceEqDiff,reduceCtorEq,Nat.reduceAdd,Nat.reduceLeDiff,Nat.reduceLT,Nat.reduceBNe,EE.down]
 ·rfl
 ·rfl
 ·simp[liveAll,A1.live,C.live]
 ·rfl
 ·decide
 ·exact trivial
 refine ww ?_
 cases h
 exact eF []
def F29(x0:ByteArray)(x1:ByteArray):Option (Int):=(F45 x0 x1).bind fun t1=>some t1
def a29:AFn:=⟨8,[(.tmp 4)],
 (.seq (.reg [sq 4 (.mv (kI 0))])
 (.seq (.reg [sq 5 (.mv (.t 0)),
sq 6 (.mv (.t 1)),
sq 7 (.call 45 [(.t 5),(.t 6)]),
sq 4 (.mv (.t 7))])
 .ret))⟩
theorem F29_ok{x0 x1 r}(h:F29 x0 x1=some r):CallD Try.prog 29 [.c (dS x0),.c (dS x1)] [] (tupV [.c (dI r)]) []:=by
 rw[F29]at h
 refine zc a29 (by kernel_rfl) rfl (ww ?_)
 obtain⟨t1,ht1,h⟩:=bi h
 refine cN [] (F45_ok ht1) trivial (ww ?_)
 cases h
 exact eF []
def F14_l5(t1:(List (ByteArray×Endpoint)))(t2:(List (ByteArray×Endpoint)))(t4:List ByteArray):List ByteArray→Nat→(List ByteArray)→(List ByteArray)→Option ((List ByteArray)×(List ByteArray))
 |[],o5_2,o5_0,o5_1=>some ((o5_0,o5_1))
 |xo5::xs,o5_2,o5_0,o5_1=>(((rdI t4 ((o5_2:Int))).bind fun y8=>(if(nb ((getM y8 t1).isSome))=true then(apI o5_0 ([y8])).bind fun a10=>some ((a10,o5_1))else(if(nb ((decide ((((getM y8 t1).getD ((⟨(⟨#[]⟩:ByteArray),(⟨#[]⟩:ByteArray),0,false,false⟩:Endpoint)))).Pod=(((getM y8 t2).getD ((⟨(⟨#[]⟩:ByteArray),(⟨#[]⟩:ByteArray),0,false,false⟩:Endpoint)))).Pod)&&(decide ((((getM y8 t1).getD ((⟨(⟨#[]⟩:ByteArray),(⟨#[]⟩:ByteArray),0,false,false⟩:Endpoint)))).Node=(((getM y8 t2).getD ((⟨(⟨#[]⟩:ByteArray),(⟨#[]⟩:ByteArray),0,false,false⟩:Endpoint)))).Node)&&(decide ((((getM y8 t1).getD ((⟨(⟨#[]⟩:ByteArray),(⟨#[]⟩:ByteArray),0,false,false⟩:Endpoint)))).Address=(((getM y8 t2).getD ((⟨(⟨#[]⟩:ByteArray),(⟨#[]⟩:ByteArray),0,false,false⟩:Endpoint)))).Address)&&((((((getM y8 t1).getD ((⟨(⟨#[]⟩:ByteArray),(⟨#[]⟩:ByteArray),0,false,false⟩:Endpoint)))).Ready)==((((getM y8 t2).getD ((⟨(⟨#[]⟩:ByteArray),(⟨#[]⟩:ByteArray),0,false,false⟩:Endpoint)))).Ready))&&(((((getM y8 t1).getD ((⟨(⟨#[]⟩:ByteArray),(⟨#[]⟩:ByteArray),0,false,false⟩:Endpoint)))).Terminating)==((((getM y8 t2).getD ((⟨(⟨#[]⟩:ByteArray),(⟨#[]⟩:ByteArray),0,false,false⟩:Endpoint)))).Terminating))))))))=true then(apI o5_1 ([y8])).bind fun a12=>some ((o5_0,a12))else some ((o5_0,o5_1))))).bind fun o7=>F14_l5 t1 t2 t4 xs (o5_2+1) o7.1 o7.2)
def F14_l16(t15:List ByteArray)(t2:(List (ByteArray×Endpoint))):List ByteArray→Nat→(List ByteArray)→Option ((List ByteArray))
 |[],o16_1,o16_0=>some o16_0
 |xo16::xs,o16_1,o16_0=>(((rdI t15 ((o16_1:Int))).bind fun y19=>(if(nb ((getM y19 t2).isSome))=true then(apI o16_0 ([y19])).bind fun a21=>some a21 else some o16_0)).bind fun o18=>F14_l16 t15 t2 xs (o16_1+1) o18)
def F14(x0:EndpointSet)(x1:EndpointSet):Option ((List ByteArray)×(List ByteArray)×(List ByteArray)):=(F33 x0).bind fun t1=>(F33 x1).bind fun t2=>(F35 t2).bind fun t3=>(keysI ((t2.map Prod.fst))).bind fun t4=>(((ck (0≤t4.length∧t4.length≤4294967290)).bind fun u13=>F14_l5 t1 t2 t4 t4 0 ([]) ([])).bind fun o5=>(F35 t1).bind fun t14=>(keysI ((t1.map Prod.fst))).bind fun t15=>(((ck (0≤t15.length∧t15.length≤4294967290)).bind fun u22=>F14_l16 t15 t2 t15 0 ([])).bind fun o16=>some ((o5.1,o16,o5.2))))
def a14:AFn:=⟨80,[(.tmp 4),(.tmp 5),(.tmp 6)],
 (.seq (.reg [sq 2 (.box (.t 0)),
sq 3 (.box (.t 1)),
sq 4 (.mv kN),
sq 5 (.mv kN),
sq 6 (.mv kN)])
 (.seq (.regd [sq 20 (.load (some 15) (.t 2)),
zn 21 (.call 33 [(.t 20)]) [0] [0],
sq 22 (.load (some 15) (.t 3)),
zl 23 (.call 33 [(.t 22)]) [0,1,2] [],
sd 7 (.mv (.t 21)) [0,1,2,3],
sd 8 (.mv (.t 23)) [0,1,2,3,4]])
 (.seq (.reg [sq 9 (.mv kN),
sq 10 (.mv kN),
sq 11 (.mv kN)])
 (.seq (.seq (.reg [sq 24 (.mv (.t 8)),
sq 25 (.call 35 [(.t 24)]),
sq 26 (.call 34 [(.t 25)]),
sq 27 (.len (.t 26)),
sq 28 (.mv (kI 0))])
 (.sem (.block 0 (.loop (.seq (.reg [sq 29 (.bin .lss (.t 28) (.t 27))])
 (.seq (.cond (.t 29)
 .skip
 (.exit 0))
 (.seq (.sem (.block 1 (.seq (.reg [sq 30 (.indexA 1 (.t 26) (.t 28)),
sq 31 (.load none (.t 30)),
sq 13 (.mv (.t 31))])
 (.seq (.reg [sq 33 (.mv (.t 7)),
sq 34 (.mv (.t 13)),
sq 35 (.mget 1 true (.agg [dS ⟨#[]⟩,dS ⟨#[]⟩,dI 0,dB false,dB false]) (.t 33) (.t 34)),
sq 32 (.mv (.t 35)),
sq 36 (.ext (.t 32) 0),
sq 37 (.ext (.t 32) 1),
sq 14 (.zbox [dS ⟨#[]⟩,dS ⟨#[]⟩,dI 0,dB false,dB false]),
su (.store 5 (.t 14) (.t 36)),
sq 15 (.mv (.t 37))])
 (.block 2 (.seq (.reg [sq 39 (.mv (.t 15)),
sq 40 (.not (.t 39)),
sq 38 (.mv (.t 40))])
 (.cond (.t 38)
 (.reg [sq 41 (.mv (.t 9)),
sq 42 (.mv (.t 13)),
sq 43 (.bslice 1 [(.t 42)]),
sq 44 (.app 1 16 (.t 41) (.t 43)),
sq 9 (.mv (.t 44))])
 (.seq (.reg [sq 46 (.load (some 5) (.t 14)),
sq 47 (.mv (.t 8)),
sq 48 (.mv (.t 13)),
sq 49 (.mget 1 false (.agg [dS ⟨#[]⟩,dS ⟨#[]⟩,dI 0,dB false,dB false]) (.t 47) (.t 48)),
sq 50 (.eqs true [(0,2),(1,2),(2,0),(3,1),(4,1)] (.t 46) (.t 49)),
sq 45 (.mv (.t 50))])
 (.cond (.t 45)
 (.reg [sq 51 (.mv (.t 11)),
sq 52 (.mv (.t 13)),
sq 53 (.bslice 1 [(.t 52)]),
sq 54 (.app 1 16 (.t 51) (.t 53)),
sq 11 (.mv (.t 54))])
 .skip)))))))))
 (.reg [sq 55 (.bin .add (.t 28) (kI 1)),
sq 28 (.mv (.t 55))]))))))))
 (.seq (.seq (.reg [sq 56 (.mv (.t 7)),
sq 57 (.call 35 [(.t 56)]),
sq 58 (.call 34 [(.t 57)]),
sq 59 (.len (.t 58)),
sq 60 (.mv (kI 0))])
 (.sem (.block 3 (.loop (.seq (.reg [sq 61 (.bin .lss (.t 60) (.t 59))])
 (.seq (.cond (.t 61)
 .skip
 (.exit 3))
 (.seq (.sem (.block 4 (.seq (.reg [sq 62 (.indexA 1 (.t 58) (.t 60)),
sq 63 (.load none (.t 62)),
sq 17 (.mv (.t 63))])
 (.seq (.reg [sq 65 (.mv (.t 8)),
sq 66 (.mv (.t 17)),
sq 67 (.mget 1 true (.agg [dS ⟨#[]⟩,dS ⟨#[]⟩,dI 0,dB false,dB false]) (.t 65) (.t 66)),
sq 64 (.mv (.t 67)),
sq 68 (.ext (.t 64) 0),
sq 69 (.ext (.t 64) 1),
sq 18 (.zbox [dS ⟨#[]⟩,dS ⟨#[]⟩,dI 0,dB false,dB false]),
su (.store 5 (.t 18) (.t 68)),
sq 19 (.mv (.t 69))])
 (.seq (.reg [sq 70 (.mv (.t 19)),
sq 71 (.not (.t 70))])
 (.cond (.t 71)
 (.reg [sq 72 (.mv (.t 10)),
sq 73 (.mv (.t 17)),
sq 74 (.bslice 1 [(.t 73)]),
sq 75 (.app 1 16 (.t 72) (.t 74)),
sq 10 (.mv (.t 75))])
 .skip))))))
 (.reg [sq 76 (.bin .add (.t 60) (kI 1)),
sq 60 (.mv (.t 76))]))))))))
 (.seq (.reg [sq 77 (.mv (.t 9)),
sq 78 (.mv (.t 10)),
sq 79 (.mv (.t 11)),
sq 4 (.mv (.t 77)),
sq 5 (.mv (.t 78)),
sq 6 (.mv (.t 79))])
 .ret))))))⟩
theorem F14_ok{x0 x1 r}(h:F14 x0 x1=some r):CallD Try.prog 14 [.agg [dS x0.Meta.Kind,dS x0.Meta.Namespace,dS x0.Meta.Name,dI x0.Meta.Uid,dI x0.Meta.Version,dI x0.Meta.Generation,dI x0.Meta.Created,dB x0.Meta.Deleting,dI x0.Meta.DeleteAt,dM (x0.Meta.Labels.map eLabel),dM (x0.Meta.Owners.map eOwner),dM (x0.Meta.Finalizers.map eS),dM (x0.Meta.Managers.map eManager),dM (x0.Ports.map eServicePort),dM (x0.Items.map eEndpoint)],.agg [dS x1.Meta.Kind,dS x1.Meta.Namespace,dS x1.Meta.Name,dI x1.Meta.Uid,dI x1.Meta.Version,dI x1.Meta.Generation,dI x1.Meta.Created,dB x1.Meta.Deleting,dI x1.Meta.DeleteAt,dM (x1.Meta.Labels.map eLabel),dM (x1.Meta.Owners.map eOwner),dM (x1.Meta.Finalizers.map eS),dM (x1.Meta.Managers.map eManager),dM (x1.Ports.map eServicePort),dM (x1.Items.map eEndpoint)]] [] (tupV [.c (.own 0 0 0 (r.1.length) none),.c (.own 1 0 0 (r.2.1.length) none),.c (.own 2 0 0 (r.2.2.length) none)]) [some (.arr 0 1 (r.1.map eS)),some (.arr 0 1 (r.2.1.map eS)),some (.arr 0 1 (r.2.2.map eS))]:=by
 rw[F14]at h
 refine zc a14 (by kernel_rfl) rfl (ww ?_)
 obtain⟨t1,ht1,h⟩:=bi h
 refine cN [] (F33_ok ht1) trivial (ww ?_)
 refine kD_new (by simp[wrs,allW,hset]) (ww ?_)
 obtain⟨t2,ht2,h⟩:=bi h
 refine cN [] (F33_ok ht2) trivial (ww ?_)
 obtain⟨t3,ht3,h⟩:=bi h
 refine cN [3] (F35_ok ht3) ⟨⟨congrArg some (by first|exact ren_m1.symm|exact ren_ms.symm),(by first|exact entsD_live entsD_1 _|exact entsD_live entsD_s _)⟩,trivial⟩ ?_
 refine ww ?_
 obtain⟨t4,ht4,h⟩:=bi h
 refine cN [4,3] (F34_48_ok ht4) ⟨⟨rfl,by simp[Blk.live,C.live,hp]⟩,⟨⟨congrArg some (by first|exact ren_m1.symm|exact ren_ms.symm),(by first|exact entsD_live entsD_1 _|exact entsD_live entsD_s _)⟩,trivial⟩⟩ ?_
 refine ww ?_
 obtain⟨o5,ho,h⟩:=bi h
 refine cutS (fun s=>s=⟨[(7,.one (.c (.mref 0))),(8,.one (.c (.mref 1))),(9,.one (.c (.own 2 0 0 (o5.1.length) none))),(10,.one (.c (dN))),(11,.one (.c (.own 3 0 0 (o5.2.length) none)))],[some (.map (eMs Value.string eEndpoint t1)),some (.map (eMs Value.string eEndpoint t2)),some (.arr 0 1 (o5.1.map eS)),some (.arr 0 1 (o5.2.map eS))]⟩) ?_ ?_
 ·have h:=ho
  clear ho
  obtain⟨_,hk,h⟩:=bi h
  have hk:=ck_some hk
  refine ww ?_
  refine bL (fun j s=>∃(o5_2:Nat) (o5_0:List ByteArray) (o5_1:List ByteArray),(o5_2≤t4.length∧j=t4.length-o5_2)∧s=⟨[(7,.one (.c (.mref 0))),(8,.one (.c (.mref 1))),(9,.one (.c (.own 2 0 0 (o5_0.length) none))),(10,.one (.c (dN))),(11,.one (.c (.own 3 0 0 (o5_1.length) none))),(26,.one (.c (.own 4 0 0 (t4.length) none))),(27,.one (.c (dI ((t4.length:Int))))),(28,.one (.c (dI ((o5_2:Int)))))],[some (.map (eMs Value.string eEndpoint t1)),some (.map (eMs Value.string eEndpoint t2)),some (.arr 0 1 (o5_0.map eS)),some (.arr 0 1 (o5_1.map eS)),some (.arr 0 1 (t4.map eS))]⟩∧F14_l5 t1 t2 t4 (t4.drop o5_2) o5_2 o5_0 o5_1=some o5) (t4.length-0) [some 2,some 3,none,none,some 5] ⟨0,[],[],⟨hk.1,rfl⟩,rfl,h⟩ ?_
  rintro _ _ ⟨o5_2,o5_0,o5_1,⟨hi,rfl⟩,rfl,h⟩
  refine ww ?_
  refine condS (fun c6=>?_) (fun c6=>?_)
  ·obtain⟨xo5,hxo5,hd⟩:=countY (show(o5_2:Int)<(t4.length:Int)from c6)
   rw[hd,F14_l5]at h
   refine ww ?_
   obtain⟨o7,ho,h⟩:=bi h
   refine cutS (fun s=>s=⟨[(7,.one (.c (.mref 0))),(8,.one (.c (.mref 1))),(9,.one (.c (.own 2 0 0 (o7.1.length) none))),(10,.one (.c (dN))),(11,.one (.c (.own 3 0 0 (o7.2.length) none))),(26,.one (.c (.own 4 0 0 (t4.length) none))),(27,.one (.c (dI ((t4.length:Int))))),(28,.one (.c (dI ((o5_2:Int)))))],[some (.map (eMs Value.string eEndpoint t1)),some (.map (eMs Value.string eEndpoint t2)),some (.arr 0 1 (o7.1.map eS)),some (.arr 0 1 (o7.2.map eS)),some (.arr 0 1 (t4.map eS))]⟩) ?_ ?_
   ·have h:=ho
    clear ho
    refine ww ?_
    obtain⟨y8,hy8,h⟩:=bi h
    refine t_idxO (enc:=eS) (xs:=t4) rfl rfl rfl (by first|rfl|simp only[List.length_set]|exact(clrL_len (slI_len (by assumption))).symm) hy8 (ww ?_)
    refine LdRow.rd (rdI_some hy8).2.1 (ww ?_)
    refine t_mgetsk (enc:=eEndpoint) (l:=t1) (z:=(⟨(⟨#[]⟩:ByteArray),(⟨#[]⟩:ByteArray),0,false,false⟩:Endpoint)) kkS rfl rfl rfl rfl (ww ?_)
    refine condBh h (fun c9 h=>?_) (fun c9 h=>?_)
    ·refine ww ?_
     refine t_bslice (enc:=eS) (ys:=[y8]) rfl rfl (by simp[A1.cells]) (by first|rfl|(simp only[List.drop_zero,take_mapL];rfl)|(simp only[lit,List.map_cons,List.map_nil,List.drop_zero,take_mapL,EE.down];done)|(simp only[lit,List.map_cons,List.map_nil,List.drop_zero,take_mapL,EE.down];rfl)) (ww ?_)
     obtain⟨a10,ha10,h⟩:=bi h
     refine t_app (enc:=eS) (xs:=o5_0) rfl rfl (by first|rfl|simp only[List.length_set]|exact(clrL_len (slI_len (by assumption))).symm) rfl (rows_full (enc:=eS) (by first|rfl|simp only[List.length_set]|exact(clrL_len (slI_len (by assumption))).symm) rfl) ha10 (ww ?_)
     cases h
     exact eM [some 0,some 1,some 2,some 3,some 4] rfl
    refine ww ?_
    refine t_mgets (enc:=eEndpoint) (l:=t2) (z:=(⟨(⟨#[]⟩:ByteArray),(⟨#[]⟩:ByteArray),0,false,false⟩:Endpoint)) kkS rfl rfl rfl rfl (ww ?_)
    refine condBh h (fun c11 h=>?_) (fun c11 h=>?_)
    ·refine ww ?_
     refine t_bslice (enc:=eS) (ys:=[y8]) rfl rfl (by simp[A1.cells]) (by first|rfl|(simp only[List.drop_zero,take_mapL];rfl)|(simp only[lit,List.map_cons,List.map_nil,List.drop_zero,take_mapL,EE.down];done)|(simp only[lit,List.map_cons,List.map_nil,List.drop_zero,take_mapL,EE.down];rfl)) (ww ?_)
     obtain⟨a12,ha12,h⟩:=bi h
     refine t_app (enc:=eS) (xs:=o5_1) rfl rfl (by first|rfl|simp only[List.length_set]|exact(clrL_len (slI_len (by assumption))).symm) rfl (rows_full (enc:=eS) (by first|rfl|simp only[List.length_set]|exact(clrL_len (slI_len (by assumption))).symm) rfl) ha12 (ww ?_)
     cases h
     exact eM [some 0,some 1,some 2,some 3,some 4] rfl
    refine ww ?_
    cases h
    exact eM [some 0,some 1,some 2,some 3,some 4] rfl
   rintro _ rfl
   clear ho
   refine ww ?_
   rw[wrapN (by omega)]
   exact eL' (t4.length-(o5_2+1)) [some 0,some 1,some 2,some 3,some 4] ⟨o5_2+1,o7.1,o7.2,⟨by omega,rfl⟩,rfl,h⟩ (by omega)
  rw[countN (show¬((o5_2:Int)<(t4.length:Int))from c6),F14_l5]at h
  refine ww ?_
  cases h
  exact eM [some 0,some 1,some 2,some 3] rfl
 rintro _ rfl
 clear ho
 refine ww ?_
 obtain⟨t14,ht14,h⟩:=bi h
 refine cN [0] (F35_ok ht14) ⟨⟨congrArg some (by first|exact ren_m1.symm|exact ren_ms.symm),(by first|exact entsD_live entsD_1 _|exact entsD_live entsD_s _)⟩,trivial⟩ ?_
 refine ww ?_
 obtain⟨t15,ht15,h⟩:=bi h
 refine cN [4,0] (F34_48_ok ht15) ⟨⟨rfl,by simp[Blk.live,C.live,hp]⟩,⟨⟨congrArg some (by first|exact ren_m1.symm|exact ren_ms.symm),(by first|exact entsD_live entsD_1 _|exact entsD_live entsD_s _)⟩,trivial⟩⟩ ?_
 refine ww ?_
 obtain⟨o16,ho,h⟩:=bi h
 refine cutS (fun s=>s=⟨[(9,.one (.c (.own 0 0 0 (o5.1.length) none))),(10,.one (.c (.own 1 0 0 (o16.length) none))),(11,.one (.c (.own 2 0 0 (o5.2.length) none)))],[some (.arr 0 1 (o5.1.map eS)),some (.arr 0 1 (o16.map eS)),some (.arr 0 1 (o5.2.map eS))]⟩) ?_ ?_
 ·have h:=ho
  clear ho
  obtain⟨_,hk,h⟩:=bi h
  have hk:=ck_some hk
  refine ww ?_
  refine bL (fun j s=>∃(o16_1:Nat) (o16_0:List ByteArray),(o16_1≤t15.length∧j=t15.length-o16_1)∧s=⟨[(8,.one (.c (.mref 0))),(9,.one (.c (.own 1 0 0 (o5.1.length) none))),(10,.one (.c (.own 2 0 0 (o16_0.length) none))),(11,.one (.c (.own 3 0 0 (o5.2.length) none))),(58,.one (.c (.own 4 0 0 (t15.length) none))),(59,.one (.c (dI ((t15.length:Int))))),(60,.one (.c (dI ((o16_1:Int)))))],[some (.map (eMs Value.string eEndpoint t2)),some (.arr 0 1 (o5.1.map eS)),some (.arr 0 1 (o16_0.map eS)),some (.arr 0 1 (o5.2.map eS)),some (.arr 0 1 (t15.map eS))]⟩∧F14_l16 t15 t2 (t15.drop o16_1) o16_1 o16_0=some o16) (t15.length-0) [some 1,some 2,none,some 3,some 5] ⟨0,[],⟨hk.1,rfl⟩,rfl,h⟩ ?_
  rintro _ _ ⟨o16_1,o16_0,⟨hi,rfl⟩,rfl,h⟩
  refine ww ?_
  refine condS (fun c17=>?_) (fun c17=>?_)
  ·obtain⟨xo16,hxo16,hd⟩:=countY (show(o16_1:Int)<(t15.length:Int)from c17)
   rw[hd,F14_l16]at h
   refine ww ?_
   obtain⟨o18,ho,h⟩:=bi h
   refine cutS (fun s=>s=⟨[(8,.one (.c (.mref 0))),(9,.one (.c (.own 1 0 0 (o5.1.length) none))),(10,.one (.c (.own 2 0 0 (o18.length) none))),(11,.one (.c (.own 3 0 0 (o5.2.length) none))),(58,.one (.c (.own 4 0 0 (t15.length) none))),(59,.one (.c (dI ((t15.length:Int))))),(60,.one (.c (dI ((o16_1:Int)))))],[some (.map (eMs Value.string eEndpoint t2)),some (.arr 0 1 (o5.1.map eS)),some (.arr 0 1 (o18.map eS)),some (.arr 0 1 (o5.2.map eS)),some (.arr 0 1 (t15.map eS))]⟩) ?_ ?_
   ·have h:=ho
    clear ho
    refine ww ?_
    obtain⟨y19,hy19,h⟩:=bi h
    refine t_idxO (enc:=eS) (xs:=t15) rfl rfl rfl (by first|rfl|simp only[List.length_set]|exact(clrL_len (slI_len (by assumption))).symm) hy19 (ww ?_)
    refine LdRow.rd (rdI_some hy19).2.1 (ww ?_)
    refine t_mgetsk (enc:=eEndpoint) (l:=t2) (z:=(⟨(⟨#[]⟩:ByteArray),(⟨#[]⟩:ByteArray),0,false,false⟩:Endpoint)) kkS rfl rfl rfl rfl (ww ?_)
    refine condBh h (fun c20 h=>?_) (fun c20 h=>?_)
    ·refine ww ?_
     refine t_bslice (enc:=eS) (ys:=[y19]) rfl rfl (by simp[A1.cells]) (by first|rfl|(simp only[List.drop_zero,take_mapL];rfl)|(simp only[lit,List.map_cons,List.map_nil,List.drop_zero,take_mapL,EE.down];done)|(simp only[lit,List.map_cons,List.map_nil,List.drop_zero,take_mapL,EE.down];rfl)) (ww ?_)
     obtain⟨a21,ha21,h⟩:=bi h
     refine t_app (enc:=eS) (xs:=o16_0) rfl rfl (by first|rfl|simp only[List.length_set]|exact(clrL_len (slI_len (by assumption))).symm) rfl (rows_full (enc:=eS) (by first|rfl|simp only[List.length_set]|exact(clrL_len (slI_len (by assumption))).symm) rfl) ha21 (ww ?_)
     cases h
     exact eM [some 0,some 1,some 2,some 3,some 4] rfl
    refine ww ?_
    cases h
    exact eM [some 0,some 1,some 2,some 3,some 4] rfl
   rintro _ rfl
   clear ho
   refine ww ?_
   rw[wrapN (by omega)]
   exact eL' (t15.length-(o16_1+1)) [some 0,some 1,some 2,some 3,some 4] ⟨o16_1+1,o18,⟨by omega,rfl⟩,rfl,h⟩ (by omega)
  rw[countN (show¬((o16_1:Int)<(t15.length:Int))from c17),F14_l16]at h
  refine ww ?_
  cases h
  exact eM [some 1,some 2,some 3] rfl
 rintro _ rfl
 clear ho
 refine ww ?_
 cases h
 exact eF [some 0,some 1,some 2]
def F18_l1(x1:(List Label)):List Requirement→Nat→Option ((Bool) ⊕ (Unit))
 |[],o1_0=>some (Sum.inr (()))
 |xo1::xs,o1_0=>(F38 xo1 x1).bind fun t3=>(if(nb t3)=true then(some false).map Sum.inl else F18_l1 x1 xs (o1_0+1))
def F18(x0:(List Requirement))(x1:(List Label)):Option (Bool):=(((ck (0≤x0.length∧x0.length≤4294967290)).bind fun u5=>F18_l1 x1 x0 0:Option ((Bool) ⊕ (Unit))).bind fun o1=>match o1 with|Sum.inl f=>some f|Sum.inr po1=>some true)
def a18:AFn:=⟨19,[(.tmp 4)],
 (.seq (.reg [sq 4 (.mv (kB false))])
 (.seq (.seq (.reg [sq 5 (.mv (kI 0))])
 (.sem (.block 0 (.loop (.seq (.seq (.reg [sq 6 (.mv (.t 5)),
sq 7 (.mv (.t 0)),
sq 8 (.len (.t 7)),
sq 9 (.bin .lss (.t 6) (.t 8))])
 (.cond (.t 9)
 .skip
 (.exit 0)))
 (.seq (.block 1 (.seq (.reg [sq 12 (.mv (.t 0)),
sq 13 (.mv (.t 5)),
sq 14 (.indexA 3 (.t 12) (.t 13)),
sq 15 (.load (some 3) (.t 14)),
sq 16 (.mv (.t 1)),
sq 17 (.call 38 [(.t 15),(.t 16)]),
sq 18 (.not (.t 17))])
 (.cond (.t 18)
 (.seq (.reg [sq 4 (.mv (kB false))])
 .ret)
 .skip)))
 (.reg [sq 10 (.mv (.t 5)),
sq 11 (.bin .add (.t 10) (kI 1)),
sq 5 (.mv (.t 11))])))))))
 (.seq (.reg [sq 4 (.mv (kB true))])
 .ret)))⟩
theorem F18_ok{x0 x1 r}(h:F18 x0 x1=some r):CallD Try.prog 18 [.c (dM (x0.map eRequirement)),.c (dM (x1.map eLabel))] [] (tupV [.c (dB r)]) []:=by
 rw[F18]at h
 refine zc a18 (by kernel_rfl) rfl (ww ?_)
 obtain⟨o1,ho,h⟩:=bi h
 refine cutS (fun s=>∃po1,o1=Sum.inr po1∧s=⟨[],[]⟩) ?_ ?_
 ·have h0o1:=h
  have h:=ho
  clear ho
  obtain⟨_,hk,h⟩:=bi h
  have hk:=ck_some hk
  refine ww ?_
  refine bL (fun j s=>∃(o1_0:Nat),(o1_0≤x0.length∧j=x0.length-o1_0)∧s=⟨[(0,.one (.c (dM (x0.map eRequirement)))),(1,.one (.c (dM (x1.map eLabel)))),(5,.one (.c (dI ((o1_0:Int)))))],[]⟩∧F18_l1 x1 (x0.drop o1_0) o1_0=some o1) (x0.length-0) [] ⟨0,⟨hk.1,rfl⟩,rfl,h⟩ ?_
  rintro _ _ ⟨o1_0,⟨hi,rfl⟩,rfl,h⟩
  refine ww ?_
  refine condS (fun c2=>?_) (fun c2=>?_)
  ·obtain⟨xo1,hxo1,hd⟩:=countY (show(o1_0:Int)<(x0.length:Int)from c2)
   rw[hd,F18_l1]at h
   refine ww ?_
   refine t_idxF (enc:=eRequirement) (xs:=x0) rfl rfl hxo1 rfl (ww ?_)
   obtain⟨t3,ht3,h⟩:=bi h
   refine cN [] (F38_ok ht3) trivial (ww ?_)
   refine condBh h (fun c4 h=>?_) (fun c4 h=>?_)
   ·refine ww ?_
    obtain⟨fh0o1,hfh0o1,rfl⟩:=Option.map_eq_some_iff.1 h
    have h:=hfh0o1.trans h0o1
    cases h
    exact eF []
   refine ww ?_
   rw[wrapN (by omega)]
   exact eL' (x0.length-(o1_0+1)) [] ⟨o1_0+1,⟨by omega,rfl⟩,rfl,h⟩ (by omega)
  rw[countN (show¬((o1_0:Int)<(x0.length:Int))from c2),F18_l1]at h
  refine ww ?_
  cases h
  exact eM [] ⟨_,rfl,rfl⟩
 rintro _ ⟨po1,rfl,rfl⟩
 clear ho
 dsimp only at h
 refine ww ?_
 cases h
 exact eF []
end Go.Proofs.Ytfkkccgopmcnaaa
